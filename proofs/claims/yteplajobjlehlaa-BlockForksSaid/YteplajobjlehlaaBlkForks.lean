/-
  BlockForks: what becomes of a fork changes nothing of the disk, and what is told is the caller's: for every two lists of deeds the law returns true.
-/
import Derived.Test.YteplajobjlehlaaBlkP
import Derived.Test.YteplajobjlehlaaBlkV
import Derived.Test.YteplajobjlehlaaLaw
import Derived.Test.YteplajobjlehlaaRows
set_option linter.all false
set_option maxRecDepth 100000
namespace Go.Proofs.Yteplajobjlehlaa.Forks
open Go Hold Go.ChangeShapes Go.WideShapes Go.ChangeAt Go.RowKit
variable {E : World0} {w : World} {H R : HP} {K : Value → World → Prop}

/-! ### Rows of one's own -/
def rows : List Value → List (List Value) → HP
  | v :: vs, xs :: xss => osl 5 1 v xs.length xs * rows vs xss
  | _, _ => Hold.emp
theorem rows_set : ∀ (vs : List Value) (xss : List (List Value)) (i : Nat) (h1 : i < vs.length) (h2 : i < xss.length) (xs : List Value), rows vs (xss.set i xs) = osl 5 1 vs[i] xs.length xs * rows (vs.eraseIdx i) (xss.eraseIdx i)
  | v :: vs, ys :: xss, 0, _, _, xs => rfl
  | v :: vs, ys :: xss, i + 1, h1, h2, xs => by
    have := rows_set vs xss i (by simpa using h1) (by simpa using h2) xs
    simp only [List.set_cons_succ, rows, List.getElem_cons_succ, List.eraseIdx_cons_succ, this]
    exact star_left_comm _ _ _
  | [], _, i, h1, _, _ => by simp at h1
  | _ :: _, [], i, _, h2, _ => by simp at h2
theorem rows_at (vs : List Value) (xss : List (List Value)) (i : Nat) (h1 : i < vs.length) (h2 : i < xss.length) : rows vs xss = osl 5 1 vs[i] xss[i].length xss[i] * rows (vs.eraseIdx i) (xss.eraseIdx i) := by
  have := rows_set vs xss i h1 h2 xss[i]
  rwa [List.set_getElem_self] at this
theorem rows_snoc : ∀ (vs : List Value) (xss : List (List Value)) (v : Value) (xs : List Value), vs.length = xss.length → rows (vs ++ [v]) (xss ++ [xs]) = rows vs xss * osl 5 1 v xs.length xs
  | [], [], v, xs, _ => by simp [rows, star_emp, emp_star]
  | u :: vs, ys :: xss, v, xs, h => by
    have := rows_snoc vs xss v xs (by simpa using h)
    simp only [List.cons_append, rows, this, star_assoc]
  | [], _ :: _, _, _, h => by simp at h
  | _ :: _, [], _, _, h => by simp at h
def bcells (L : List (List UInt8)) : List (List Value) := L.map fun l => l.map bv
theorem bcells_length (L : List (List UInt8)) : (bcells L).length = L.length := by simp [bcells]
theorem bcells_snoc (L : List (List UInt8)) (l : List UInt8) : bcells (L ++ [l]) = bcells L ++ [l.map bv] := by simp [bcells]
theorem rows_rds (vs : List Value) (L : List (List UInt8)) (i : Nat) (u : Value) (l : List UInt8) (h1 : vs[i]? = some u) (h2 : L[i]? = some l) : Rds (rows vs (bcells L)) u l.length (l.map bv) := by
  obtain ⟨a1, rfl⟩ := List.getElem?_eq_some_iff.1 h1
  obtain ⟨a2, rfl⟩ := List.getElem?_eq_some_iff.1 h2
  rw [rows_at vs (bcells L) i a1 (by rw [bcells_length]; exact a2)]
  have := Rds.own (H := osl 5 1 vs[i] ((bcells L)[i]'(by rw [bcells_length]; exact a2)).length ((bcells L)[i]'(by rw [bcells_length]; exact a2)) * rows (vs.eraseIdx i) ((bcells L).eraseIdx i)) (v := vs[i])
  simpa [bcells] using this


theorem rdd_of2 (h : sat E w H) {lv : Value} {R1 R2 : HP} (us : List Value) (L : List (List UInt8)) [s1 : OwnS H lv 32 1 L.length us R1] [s2 : Split H (pers (immAll us L)) R2] : Rdd H lv L :=
  ⟨us, Rds.own, ((h.split (pers (immAll us L))).pers_get).1, fun i u l h1 h2 => Rds.under (immAll_rds h1 h2)⟩
theorem imm_one {I : Hp} {vs : List Value} {L : List (List UInt8)} (h : (immAll vs L).p I) : ∀ x ∈ vs, x.oneCell' = true := by
  intro x hx
  obtain ⟨i, hi, rfl⟩ := List.mem_iff_getElem.1 hx
  obtain ⟨a, c, e, _⟩ := h.2 i vs[i] (L[i]'(by have := h.1; omega)) (List.getElem?_eq_getElem hi) (List.getElem?_eq_getElem _)
  rw [e]; rfl
theorem CloneL_spec (h : sat E w H) {v : Value} {n : Nat} {xs : List Value} (hr : Rds H v n xs) (hx : xs.length = n) (h1 : ∀ x ∈ xs, x.oneCell' = true) (hn : n ≤ 1000000)
    (k : ∀ v' w', sat E w' (osl 32 1 v' n xs * H) → K v' w') : Calls prog 52 #[v] w (Ret K) := by
  obtain ⟨a, c, rfl, hc, hr, ha⟩ := hr.shape h
  refine c52 ?_
  unfold B52
  simp only [↓o_nil, ↓o_field, ↓o_add, ↓o_sub, ↓o_mul, ↓o_lss, ↓o_leq, ↓o_gtr, ↓o_geq, ↓o_not, ↓o_pick, ↓o_eqInt, ↓o_neInt, ↓o_eqBool, ↓o_neBool, ↓o_eqPtr, ↓o_nePtr, ↓o_eqPtr', ↓o_eqSl, ↓o_neSl, ↓o_eqStr, ↓o_neStr, ↓o_len, ↓o_lenS, ↓o_min, ↓o_max, ↓o_extract, ↓o_convInt, ↓cd_true, ↓cd_false, ↓gate_tt, ↓gate_ff, ↓gate_tf, ↓gate_ft, ↓gate_undef, ↓pop_cons, ↓fin_nil, Option.isNone_none, Option.isNone_some, Bool.not_true, Bool.not_false, Nat.zero_add, decide_true, decide_false, if_true, if_false, Bool.false_eq_true, ↓reduceIte]
  cases a with
  | none =>
    have hn : xs = [] := ha rfl
    subst hn
    simp only [List.length_nil] at hx
    subst hx
    simp only [↓o_nil, ↓o_field, ↓o_add, ↓o_sub, ↓o_mul, ↓o_lss, ↓o_leq, ↓o_gtr, ↓o_geq, ↓o_not, ↓o_pick, ↓o_eqInt, ↓o_neInt, ↓o_eqBool, ↓o_neBool, ↓o_eqPtr, ↓o_nePtr, ↓o_eqPtr', ↓o_eqSl, ↓o_neSl, ↓o_eqStr, ↓o_neStr, ↓o_len, ↓o_lenS, ↓o_min, ↓o_max, ↓o_extract, ↓o_convInt, ↓cd_true, ↓cd_false, ↓gate_tt, ↓gate_ff, ↓gate_tf, ↓gate_ft, ↓gate_undef, ↓pop_cons, ↓fin_nil, Option.isNone_none, Option.isNone_some, Bool.not_true, Bool.not_false, Nat.zero_add, decide_true, decide_false, if_true, if_false, Bool.false_eq_true, ↓reduceIte]
    exact k _ _ (osl_nil h 32 1)
  | some a =>
    simp only [↓o_nil, ↓o_field, ↓o_add, ↓o_sub, ↓o_mul, ↓o_lss, ↓o_leq, ↓o_gtr, ↓o_geq, ↓o_not, ↓o_pick, ↓o_eqInt, ↓o_neInt, ↓o_eqBool, ↓o_neBool, ↓o_eqPtr, ↓o_nePtr, ↓o_eqPtr', ↓o_eqSl, ↓o_neSl, ↓o_eqStr, ↓o_neStr, ↓o_len, ↓o_lenS, ↓o_min, ↓o_max, ↓o_extract, ↓o_convInt, ↓cd_true, ↓cd_false, ↓gate_tt, ↓gate_ff, ↓gate_tf, ↓gate_ft, ↓gate_undef, ↓pop_cons, ↓fin_nil, Option.isNone_none, Option.isNone_some, Bool.not_true, Bool.not_false, Nat.zero_add, decide_true, decide_false, if_true, if_false, Bool.false_eq_true, ↓reduceIte]
    refine buildSlice_sl h (e := 32) (cs := #[]) (fun w => by kernel_rfl) ?_
    intro b w1 h1'
    refine append_sl (osl_of (n := 0) (sz := 1) h1' rfl (by omega)) xs (by omega) (hr.win h1'.drop) h1 (by omega) (by omega) ?_
    intro v' w2 h2
    exact k _ _ (by simpa using h2)
theorem CloneW_spec (h : sat E w H) {v : Value} {n : Nat} {xs : List Value} (hr : Rds H v n xs) (hx : xs.length = n * 2) (h1 : ∀ x ∈ xs, x.oneCell' = true) (hn : n ≤ 1000000)
    (k : ∀ v' w', sat E w' (osl 81 2 v' n xs * H) → K v' w') : Calls prog 53 #[v] w (Ret K) := by
  obtain ⟨a, c, rfl, hc, hr, ha⟩ := hr.shape h
  refine c53 ?_
  unfold B53
  simp only [↓o_nil, ↓o_field, ↓o_add, ↓o_sub, ↓o_mul, ↓o_lss, ↓o_leq, ↓o_gtr, ↓o_geq, ↓o_not, ↓o_pick, ↓o_eqInt, ↓o_neInt, ↓o_eqBool, ↓o_neBool, ↓o_eqPtr, ↓o_nePtr, ↓o_eqPtr', ↓o_eqSl, ↓o_neSl, ↓o_eqStr, ↓o_neStr, ↓o_len, ↓o_lenS, ↓o_min, ↓o_max, ↓o_extract, ↓o_convInt, ↓cd_true, ↓cd_false, ↓gate_tt, ↓gate_ff, ↓gate_tf, ↓gate_ft, ↓gate_undef, ↓pop_cons, ↓fin_nil, Option.isNone_none, Option.isNone_some, Bool.not_true, Bool.not_false, Nat.zero_add, decide_true, decide_false, if_true, if_false, Bool.false_eq_true, ↓reduceIte]
  cases a with
  | none =>
    have hn : xs = [] := ha rfl
    subst hn
    simp only [List.length_nil] at hx
    have hx : n = 0 := by omega
    subst hx
    simp only [↓o_nil, ↓o_field, ↓o_add, ↓o_sub, ↓o_mul, ↓o_lss, ↓o_leq, ↓o_gtr, ↓o_geq, ↓o_not, ↓o_pick, ↓o_eqInt, ↓o_neInt, ↓o_eqBool, ↓o_neBool, ↓o_eqPtr, ↓o_nePtr, ↓o_eqPtr', ↓o_eqSl, ↓o_neSl, ↓o_eqStr, ↓o_neStr, ↓o_len, ↓o_lenS, ↓o_min, ↓o_max, ↓o_extract, ↓o_convInt, ↓cd_true, ↓cd_false, ↓gate_tt, ↓gate_ff, ↓gate_tf, ↓gate_ft, ↓gate_undef, ↓pop_cons, ↓fin_nil, Option.isNone_none, Option.isNone_some, Bool.not_true, Bool.not_false, Nat.zero_add, decide_true, decide_false, if_true, if_false, Bool.false_eq_true, ↓reduceIte]
    exact k _ _ (osl_nil h 81 2)
  | some a =>
    simp only [↓o_nil, ↓o_field, ↓o_add, ↓o_sub, ↓o_mul, ↓o_lss, ↓o_leq, ↓o_gtr, ↓o_geq, ↓o_not, ↓o_pick, ↓o_eqInt, ↓o_neInt, ↓o_eqBool, ↓o_neBool, ↓o_eqPtr, ↓o_nePtr, ↓o_eqPtr', ↓o_eqSl, ↓o_neSl, ↓o_eqStr, ↓o_neStr, ↓o_len, ↓o_lenS, ↓o_min, ↓o_max, ↓o_extract, ↓o_convInt, ↓cd_true, ↓cd_false, ↓gate_tt, ↓gate_ff, ↓gate_tf, ↓gate_ft, ↓gate_undef, ↓pop_cons, ↓fin_nil, Option.isNone_none, Option.isNone_some, Bool.not_true, Bool.not_false, Nat.zero_add, decide_true, decide_false, if_true, if_false, Bool.false_eq_true, ↓reduceIte]
    refine buildSlice_sl h (e := 81) (cs := #[]) (fun w => by kernel_rfl) ?_
    intro b w1 h1'
    refine append_sl (osl_of (n := 0) (sz := 2) h1' rfl (by omega)) xs (by omega) (hr.win h1'.drop) h1 (by omega) (by omega) ?_
    intro v' w2 h2
    exact k _ _ (by simpa using h2)
theorem atStore_spec (h : sat E w H) {b o e : Nat} {xs : List Value} {u : Value} {m : Int} [hb : Own H b (.cells xs.toArray e (0, 0)) R] (hx : xs[o]? = some u)
    (k : ∀ w', sat E w' (pts b (.cells (xs.set o (.int .i64 m)).toArray e (0, 0)) * R) → K (.tuple #[]) w') : Calls prog 54 #[.pointer (some ⟨b, o, none⟩), .int .i64 m] w (Ret K) := by
  have h2 := h.own b
  have hg := h2.pts_get
  refine c54 ?_
  unfold B54
  simp only [↓o_nil, ↓o_field, ↓o_add, ↓o_sub, ↓o_mul, ↓o_lss, ↓o_leq, ↓o_gtr, ↓o_geq, ↓o_not, ↓o_pick, ↓o_eqInt, ↓o_neInt, ↓o_eqBool, ↓o_neBool, ↓o_eqPtr, ↓o_nePtr, ↓o_eqPtr', ↓o_eqSl, ↓o_neSl, ↓o_eqStr, ↓o_neStr, ↓o_len, ↓o_lenS, ↓o_min, ↓o_max, ↓o_extract, ↓o_convInt, ↓cd_true, ↓cd_false, ↓gate_tt, ↓gate_ff, ↓gate_tf, ↓gate_ft, ↓gate_undef, ↓pop_cons, ↓fin_nil, Option.isNone_none, Option.isNone_some, Bool.not_true, Bool.not_false, Nat.zero_add, decide_true, decide_false, if_true, if_false, Bool.false_eq_true, ↓reduceIte]
  refine ef_of (atomicStore_run (cell_of hg (by simpa using hx)) (by simp [World.frozen?, hg])) (k _ ?_)
  have : w.setCell ⟨b, o + 0, none⟩ (.int .i64 m) = w.putObj b (.cells (xs.set o (.int .i64 m)).toArray e (0, 0)) := by
    have := setCell_eq_setRow w b (o + 0) xs.toArray e (0, 0) (.int .i64 m) hg
    rw [this, setRow_putObj hg]
    simp
  rw [this]
  exact h2.set _

theorem sat_dup (φ : PP) (h : sat E w H) {R : HP} [s : Split H (pers φ) R] : sat E w (pers φ * H) := by
  have h := (h.split (pers φ)).pers_dup
  exact h.perm (by rw [s.eq])
theorem st_dd {g : Gd} {ds : List Dd} {b o : Nat} {A : Prop} (hw : win (hp w) (some ⟨b, o, none⟩) (dcells ds)) {i : Nat} (hi : i < ds.length) (k : A) : stv prog g (Instr.loadAt 24 (.pointer (some ⟨b, o + i * 3, none⟩))) ds[i].val w A := by
  obtain ⟨g0, g1, g2⟩ := dcells_get ds i hi
  refine stv_of (run_loadN (n := 3) (cs := [.int .i64 ds[i].n, .int .i64 ds[i].len, bv ds[i].b]) rfl ?_) k
  intro j v hj
  match j, hj with
  | 0, hj => simp at hj; subst hj; simpa using hw.cell b o rfl _ _ g0
  | 1, hj => simp at hj; subst hj; simpa [Nat.add_assoc] using hw.cell b o rfl _ _ g1
  | 2, hj => simp at hj; subst hj; simpa [Nat.add_assoc] using hw.cell b o rfl _ _ g2
  | j + 3, hj => simp at hj
theorem Fork_spec {d : Nat} {L : List (List UInt8)} {W : List (Int × List UInt8)} (h : sat E w H) [s : DskS H d L W R] (hL : L.length ≤ 1024) (hW : W.length ≤ 1000000)
    (k : ∀ f w', sat E w' (dsk f L W * H) → K (.pointer (some ⟨f, 0, none⟩)) w') : Calls prog 35 #[.pointer (some ⟨d, 0, none⟩)] w (Ret K) := by
  obtain ⟨lv, vs, wv, ws, e, hd⟩ := sat_dsk.1 (h.dsks d)
  have hL1 := hd.drop.drop.drop.pers_get.1
  have hL2 : ws.length = W.length := by simpa using hd.drop.drop.drop.drop.pers_get.1
  have ho1 := imm_one hd.drop.drop.drop.pers_get
  have ho2 := wcells_one hd.drop.drop.drop.drop.pers_get
  have hwl := wcells_length ws
  obtain ⟨al, cl, rfl, _, _, _⟩ := osl_shape hd.drop
  obtain ⟨aw, cw, rfl, _, _, _⟩ := osl_shape hd.drop.drop
  refine c35 ?_
  unfold B35
  simp only [↓o_nil, ↓o_field, ↓o_add, ↓o_sub, ↓o_mul, ↓o_lss, ↓o_leq, ↓o_gtr, ↓o_geq, ↓o_not, ↓o_pick, ↓o_eqInt, ↓o_neInt, ↓o_eqBool, ↓o_neBool, ↓o_eqPtr, ↓o_nePtr, ↓o_eqPtr', ↓o_eqSl, ↓o_neSl, ↓o_eqStr, ↓o_neStr, ↓o_len, ↓o_lenS, ↓o_min, ↓o_max, ↓o_extract, ↓o_convInt, ↓cd_true, ↓cd_false, ↓gate_tt, ↓gate_ff, ↓gate_tf, ↓gate_ft, ↓gate_undef, ↓pop_cons, ↓fin_nil, Option.isNone_none, Option.isNone_some, Bool.not_true, Bool.not_false, Nat.zero_add, decide_true, decide_false, if_true, if_false, Bool.false_eq_true, ↓reduceIte]
  refine dr_sl hd fun w hd _ => ?_
  refine ld_at hd ?_
  refine ld_at hd ?_
  refine CloneL_spec hd (v := .slice al L.length cl) Rds.own (by omega) ho1 (by omega) fun v1 w hd => ?_
  refine st_at hd ?_
  refine CloneW_spec hd (v := .slice aw W.length cw) Rds.own (by omega) ho2 (by omega) fun v2 w hd => ?_
  refine st_at hd ?_
  obtain ⟨a1, c1, rfl, _, _, _⟩ := osl_shape (hd.owns v1)
  obtain ⟨a2, c2, rfl, _, _, _⟩ := osl_shape (hd.owns v2)
  refine pvv_of (v := .agg #[.slice a1 L.length c1, .slice a2 W.length c2, .int .i64 0]) (fun _ => by kernel_rfl) ?_
  refine box_sl hd fun f w hd => ?_
  have hd : sat E w (pts f (.cells [Value.slice a1 L.length c1, .slice a2 W.length c2, .int .i64 0].toArray 79 (0, 0)) * _) := hd
  refine st_at hd ?_
  refine st_at hd ?_
  refine dr_sl hd fun w hd _ => ?_
  simp only [↓o_nil, ↓o_field, ↓o_add, ↓o_sub, ↓o_mul, ↓o_lss, ↓o_leq, ↓o_gtr, ↓o_geq, ↓o_not, ↓o_pick, ↓o_eqInt, ↓o_neInt, ↓o_eqBool, ↓o_neBool, ↓o_eqPtr, ↓o_nePtr, ↓o_eqPtr', ↓o_eqSl, ↓o_neSl, ↓o_eqStr, ↓o_neStr, ↓o_len, ↓o_lenS, ↓o_min, ↓o_max, ↓o_extract, ↓o_convInt, ↓cd_true, ↓cd_false, ↓gate_tt, ↓gate_ff, ↓gate_tf, ↓gate_ft, ↓gate_undef, ↓pop_cons, ↓fin_nil, Option.isNone_none, Option.isNone_some, Bool.not_true, Bool.not_false, Nat.zero_add, decide_true, decide_false, if_true, if_false, Bool.false_eq_true, ↓reduceIte]
  refine atLoad_spec hd (xs := [_, _, .int .i64 W.length]) rfl ?_
  refine atStore_spec hd (xs := [_, _, .int .i64 0]) rfl fun w hd => ?_
  refine k f w ?_
  have hd : sat E w (pts f (.cells [Value.slice a1 L.length c1, .slice a2 W.length c2, .int .i64 W.length].toArray 79 (0, 0)) * _) := hd
  have hd := sat_dup (immAll vs L) hd
  have hd := sat_dup (immAll (ws.map (·.2)) (W.map (·.2))) hd
  have hd := dsk_shut (lv := .slice a1 L.length c1) (wv := .slice a2 W.length c2) f L W e hd
  have hd := dsk_shut d L W e hd
  exact hd.perm (by rw [s.eq]; ac_rfl)

/-- Rows of one's own, told by copied and by Image. -/
theorem copied_rows (h : sat E w H) {v : Value} {L : List (List UInt8)} (hr : Rdd H v L) (hn : L.length ≤ 1024) (hl : ∀ l ∈ L, l.length ≤ 140737488355328)
    (k : ∀ v' vs' w', vs'.length = L.length → sat E w' (osl 32 1 v' L.length vs' * (rows vs' (bcells L) * H)) → K v' w') : Calls prog 40 #[v] w (Ret K) := by
  obtain ⟨vs, hv, hlen, hall⟩ := hr
  obtain ⟨a, c, rfl, hc, hv, ha⟩ := hv.shape h
  refine c40 ?_
  unfold B40
  simp only [↓o_nil, ↓o_field, ↓o_add, ↓o_sub, ↓o_mul, ↓o_lss, ↓o_leq, ↓o_gtr, ↓o_geq, ↓o_not, ↓o_pick, ↓o_eqInt, ↓o_neInt, ↓o_eqBool, ↓o_neBool, ↓o_eqPtr, ↓o_nePtr, ↓o_eqPtr', ↓o_eqSl, ↓o_neSl, ↓o_eqStr, ↓o_neStr, ↓o_len, ↓o_lenS, ↓o_min, ↓o_max, ↓o_extract, ↓o_convInt, ↓cd_true, ↓cd_false, ↓gate_tt, ↓gate_ff, ↓gate_tf, ↓gate_ft, ↓gate_undef, ↓pop_cons, ↓fin_nil, Option.isNone_none, Option.isNone_some, Bool.not_true, Bool.not_false, Nat.zero_add, decide_true, decide_false, if_true, if_false, Bool.false_eq_true, ↓reduceIte]
  refine make_sl h rfl (by omega) (by omega) (by omega) (by omega) ?_
  intro b w1 h1
  simp only [↓o_nil, ↓o_field, ↓o_add, ↓o_sub, ↓o_mul, ↓o_lss, ↓o_leq, ↓o_gtr, ↓o_geq, ↓o_not, ↓o_pick, ↓o_eqInt, ↓o_neInt, ↓o_eqBool, ↓o_neBool, ↓o_eqPtr, ↓o_nePtr, ↓o_eqPtr', ↓o_eqSl, ↓o_neSl, ↓o_eqStr, ↓o_neStr, ↓o_len, ↓o_lenS, ↓o_min, ↓o_max, ↓o_extract, ↓o_convInt, ↓cd_true, ↓cd_false, ↓gate_tt, ↓gate_ff, ↓gate_tf, ↓gate_ft, ↓gate_undef, ↓pop_cons, ↓fin_nil, Option.isNone_none, Option.isNone_some, Bool.not_true, Bool.not_false, Nat.zero_add, decide_true, decide_false, if_true, if_false, Bool.false_eq_true, ↓reduceIte, Int.toNat_natCast]
  simp only [Int.toNat_natCast] at h1
  refine lp_nat (fun n σ w => ∃ (i : Nat) (us : List Value), σ = [.int .i64 i] ∧ n = L.length - i ∧ i ≤ L.length ∧ us.length = i ∧
    sat E w (pts b (.cells (us ++ List.replicate (L.length - i) (Value.slice none 0 0)).toArray 32 (0, 0)) * (rows us (bcells (L.take i)) * H))) L.length ⟨0, [], rfl, rfl, by omega, rfl, by simpa [rows, bcells, emp_star] using h1⟩ ?_
  rintro n σ w again ⟨i, us, rfl, rfl, hi, hus, h⟩ hag
  simp only [↓o_nil, ↓o_field, ↓o_add, ↓o_sub, ↓o_mul, ↓o_lss, ↓o_leq, ↓o_gtr, ↓o_geq, ↓o_not, ↓o_pick, ↓o_eqInt, ↓o_neInt, ↓o_eqBool, ↓o_neBool, ↓o_eqPtr, ↓o_nePtr, ↓o_eqPtr', ↓o_eqSl, ↓o_neSl, ↓o_eqStr, ↓o_neStr, ↓o_len, ↓o_lenS, ↓o_min, ↓o_max, ↓o_extract, ↓o_convInt, ↓cd_true, ↓cd_false, ↓gate_tt, ↓gate_ff, ↓gate_tf, ↓gate_ft, ↓gate_undef, ↓pop_cons, ↓fin_nil, Option.isNone_none, Option.isNone_some, Bool.not_true, Bool.not_false, Nat.zero_add, decide_true, decide_false, if_true, if_false, Bool.false_eq_true, ↓reduceIte]
  refine cd_dec (fun hlt => ?_) (fun hge => ?_)
  · have hlt : i < L.length := by omega
    obtain ⟨b', o', rfl, hb'⟩ := win_cell (hv.win h.drop.drop) (j := i) (by omega)
    rw [o_index (by omega) (by omega)]
    simp only [Int.toNat_natCast, Nat.mul_one]
    refine ld_cell hb' ?_
    have hcl := hall i vs[i] L[i] (List.getElem?_eq_getElem (by omega)) (List.getElem?_eq_getElem hlt)
    refine Clone_spec h hcl.right.right (hl _ (List.getElem_mem _)) ?_
    intro v' w2 h2
    obtain ⟨a3, c3, rfl, _, _, _⟩ := osl_shape h2
    rw [o_index (by omega) (by omega)]
    simp only [Int.toNat_natCast, Nat.mul_one, Nat.zero_add]
    refine store_sl h2 rfl (by simp; omega) ?_
    intro w3 h3
    rw [i64_of (by omega) (by omega)]
    rw [set_fill hus hlt] at h3
    refine hag _ _ _ (by omega) ⟨i + 1, us ++ [Value.slice a3 L[i].length c3], rfl, rfl, by omega, by simp [hus], h3.perm ?_⟩
    rw [List.take_succ_eq_append_getElem hlt, bcells_snoc, rows_snoc us (bcells (L.take i)) _ _ (by rw [bcells_length]; simp; omega), List.length_map]
    ac_rfl
  · have : i = L.length := by omega
    subst this
    simp only [Nat.sub_self, List.replicate_zero, List.append_nil, List.take_length] at h
    exact k (.slice (some ⟨b, 0, none⟩) L.length L.length) us w hus (osl_of h (by omega) (by omega))
theorem Image_rows {d : Nat} {L : List (List UInt8)} {W : List (Int × List UInt8)} (h : sat E w H) [s : DskS H d L W R] (wf : Wf L W)
    (k : ∀ v' vs' w', vs'.length = L.length → sat E w' (osl 32 1 v' L.length vs' * (rows vs' (bcells L) * H)) → K v' w') : Calls prog 14 #[.pointer (some ⟨d, 0, none⟩)] w (Ret K) := by
  obtain ⟨lv, vs, wv, ws, e, hd⟩ := sat_dsk.1 (h.dsks d)
  refine c14 ?_
  unfold B14
  simp only [↓o_nil, ↓o_field, ↓o_add, ↓o_sub, ↓o_mul, ↓o_lss, ↓o_leq, ↓o_gtr, ↓o_geq, ↓o_not, ↓o_pick, ↓o_eqInt, ↓o_neInt, ↓o_eqBool, ↓o_neBool, ↓o_eqPtr, ↓o_nePtr, ↓o_eqPtr', ↓o_eqSl, ↓o_neSl, ↓o_eqStr, ↓o_neStr, ↓o_len, ↓o_lenS, ↓o_min, ↓o_max, ↓o_extract, ↓o_convInt, ↓cd_true, ↓cd_false, ↓gate_tt, ↓gate_ff, ↓gate_tf, ↓gate_ft, ↓gate_undef, ↓pop_cons, ↓fin_nil, Option.isNone_none, Option.isNone_some, Bool.not_true, Bool.not_false, Nat.zero_add, decide_true, decide_false, if_true, if_false, Bool.false_eq_true, ↓reduceIte]
  refine ld_at hd ?_
  refine copied_rows hd (rdd_of hd) wf.le (fun l hl => by rw [wf.l l hl]; omega) fun v' vs' w hl h => k v' vs' w hl ?_
  have h := dsk_shut d L W e h
  exact h.perm (by rw [s.eq]; ac_rfl)

theorem tail_spec {d r f n : Nat} {L Lf : List (List UInt8)} {W V Wv : List (Int × List UInt8)} (inv : Inv 4 L W V) (hW : W.length ≤ 40) (hWv : W.length ≤ Wv.length) (hWv2 : Wv.length ≤ 80)
    (h : sat E w (dsk f Lf Wv * (dsk d L W * (rdsk r (Z 4) V * H)))) (k : ∀ w', sat E w' H → K (.bool true) w') :
    Calls prog 14 #[(.pointer (some ⟨d, 0, none⟩))] w (Ret fun t_27 w =>
    lp (fun σ w again_29 => pop σ fun i_28 σ => fin σ <|
      pv prog (oBi .len #[30] 3 #[false] #[t_27]) w fun t_30 w =>
      pvv prog (binOp .lss 3 i_28 t_30) w fun t_31 w =>
      cd t_31 (
        pvv prog (Instr.indexAt 30 t_27 i_28) w fun t_32 w =>
        ldv prog (Instr.loadAt 32 t_32) w fun t_33 w =>
        pvv prog (Instr.indexAt 32 t_33 (.int .i64 0)) w fun t_34 w =>
        efu prog (Instr.storeAt 5 t_34 (.int .u8 200)) w fun u_35 w =>
        pvv prog (binOp .add 3 i_28 (.int .i64 1)) w fun t_36 w =>
        again_29 [t_36] w) <|
      Calls prog 25 #[(.pointer (some ⟨d, 0, none⟩))] w (Ret fun t_37 w =>
      lp (fun σ w again_39 => pop σ fun i_38 σ => fin σ <|
        pv prog (oBi .len #[42] 3 #[false] #[t_37]) w fun t_40 w =>
        pvv prog (binOp .lss 3 i_38 t_40) w fun t_41 w =>
        cd t_41 (
          pvv prog (Instr.indexAt 42 t_37 i_38) w fun t_42 w =>
          efu prog (Instr.storeAt 3 t_42 (.int .i64 (-5))) w fun u_43 w =>
          pvv prog (binOp .add 3 i_38 (.int .i64 1)) w fun t_44 w =>
          again_39 [t_44] w) <|
        Calls prog 18 #[(.pointer (some ⟨d, 0, none⟩)), (.int .i64 0)] w (Ret fun t_45 w =>
        pvv prog (Instr.extract t_45 0) w fun t_46 w =>
        pvv prog (Instr.extract t_45 1) w fun t_47 w =>
        jn (fun σ w => fin σ <|
          Calls prog 14 #[(.pointer (some ⟨d, 0, none⟩))] w (Ret fun t_48 w =>
          Calls prog 28 #[(.pointer (some ⟨r, 0, none⟩))] w (Ret fun t_49 w =>
          Calls prog 27 #[t_48, t_49] w (Ret fun t_50 w =>
          gate (some (t_50, true)) (fun K => K (.pointer (some ⟨d, 0, none⟩)) w) w fun t_51 w =>
          gate (some (t_50, true)) (fun K => Calls prog 25 #[t_51] w (Ret K)) w fun t_52 w =>
          gate (some (t_50, true)) (fun K => K (.pointer (some ⟨r, 0, none⟩)) w) w fun t_53 w =>
          gate (some (t_50, true)) (fun K => Calls prog 26 #[t_53] w (Ret K)) w fun t_54 w =>
          gate (some (t_50, true)) (fun K => Calls prog 24 #[t_52, t_54] w (Ret K)) w fun t_55 w =>
          pv prog (oPick t_50 t_55 (.bool false)) w fun t_56 w =>
          gate (some (t_56, true)) (fun K => K (.pointer (some ⟨f, 0, none⟩)) w) w fun t_57 w =>
          gate (some (t_56, true)) (fun K => Calls prog 22 #[t_57] w (Ret K)) w fun t_58 w =>
          gate (some (t_56, true)) (fun K => K (.pointer (some ⟨d, 0, none⟩)) w) w fun t_59 w =>
          gate (some (t_56, true)) (fun K => Calls prog 22 #[t_59] w (Ret K)) w fun t_60 w =>
          gate (some (t_56, true)) (fun K => pvv prog (binOp .geq 3 t_58 t_60) w K) w fun t_61 w =>
          pv prog (oPick t_56 t_61 (.bool false)) w fun t_62 w =>
          gate (some (t_62, true)) (fun K => K (.pointer (some ⟨d, 0, none⟩)) w) w fun t_63 w =>
          gate (some (t_62, true)) (fun K => K (.pointer (some ⟨d, 0, none⟩)) w) w fun t_64 w =>
          gate (some (t_62, true)) (fun K => Calls prog 35 #[t_64] w (Ret K)) w fun t_65 w =>
          gate (some (t_62, true)) (fun K => Calls prog 30 #[t_63, t_65] w (Ret K)) w fun t_66 w =>
          pv prog (oPick t_62 t_66 (.bool false)) w fun t_67 w =>
          K t_67 w)))) fun k_68 =>
        pv prog (oBi .len #[32] 3 #[false] #[t_46]) w fun t_69 w =>
        pvv prog (binOp .gtr 3 t_69 (.int .i64 0)) w fun t_70 w =>
        cd t_70 (
          pvv prog (Instr.indexAt 32 t_46 (.int .i64 0)) w fun t_71 w =>
          efu prog (Instr.storeAt 5 t_71 (.int .u8 201)) w fun u_72 w =>
          k_68 [] w) <|
        k_68 [] w)) [(.int .i64 0)] w)) [(.int .i64 0)] w) := by
  have hLl := inv.len
  have hVl := inv.vlen
  have hred : redo (Z 4) V = L := by
    have hu := inv.und W.length (Nat.le_refl _)
    rw [List.drop_length, ← inv.vlen, List.take_length] at hu
    simpa [undo] using hu.symm
  have hZ : (Z 4).length = 4 := by simp [Z]
  refine Image_rows h inv.wf fun vi us w hus h => ?_
  rw [hLl] at h hus
  obtain ⟨ai, ci, rfl, _, _, hai⟩ := osl_shape h
  obtain ⟨bi, rfl⟩ := hai (by omega)
  refine lp_nat (fun n σ w => ∃ (i : Nat) (xss : List (List Value)), σ = [.int .i64 i] ∧ n = 4 - i ∧ i ≤ 4 ∧ xss.length = 4 ∧ (∀ xs ∈ xss, xs.length = 256) ∧
    sat E w (osl 32 1 (.slice (some ⟨bi, 0, none⟩) 4 ci) 4 us * (rows us xss * (dsk f Lf Wv * (dsk d L W * (rdsk r (Z 4) V * H)))))) 4 ⟨0, bcells L, rfl, rfl, by omega, by rw [bcells_length, hLl], fun xs hx => ?_, h⟩ ?_
  · obtain ⟨l, hl, rfl⟩ := List.mem_map.1 hx
    rw [List.length_map, inv.wf.l l hl]
  rintro n σ w again ⟨i, xss, rfl, rfl, hi, hxl, hx, h⟩ hag
  simp only [↓o_nil, ↓o_field, ↓o_add, ↓o_sub, ↓o_mul, ↓o_lss, ↓o_leq, ↓o_gtr, ↓o_geq, ↓o_not, ↓o_pick, ↓o_eqInt, ↓o_neInt, ↓o_eqBool, ↓o_neBool, ↓o_eqPtr, ↓o_nePtr, ↓o_eqPtr', ↓o_eqSl, ↓o_neSl, ↓o_eqStr, ↓o_neStr, ↓o_len, ↓o_lenS, ↓o_min, ↓o_max, ↓o_extract, ↓o_convInt, ↓cd_true, ↓cd_false, ↓gate_tt, ↓gate_ff, ↓gate_tf, ↓gate_ft, ↓gate_undef, ↓pop_cons, ↓fin_nil, Option.isNone_none, Option.isNone_some, Bool.not_true, Bool.not_false, Nat.zero_add, decide_true, decide_false, if_true, if_false, Bool.false_eq_true, ↓reduceIte]
  refine cd_dec (fun hlt => ?_) (fun hge => ?_)
  · have hlt : i < 4 := by omega
    rw [o_index (by omega) (by omega)]
    simp only [Int.toNat_natCast, Nat.mul_one, Nat.zero_add]
    refine ld_cell (v := us[i]) (by
      have := (Rds.own (v := .slice (some ⟨bi, 0, none⟩) 4 ci) |>.win h).cell bi 0 rfl i _ (List.getElem?_eq_getElem (by omega))
      simpa using this) ?_
    have hxi := hx xss[i] (List.getElem_mem (by omega))
    rw [rows_at us xss i (by omega) (by omega), hxi] at h
    obtain ⟨av, cv, ev, hcv, _, hav⟩ := osl_shape (h.owns us[i])
    obtain ⟨bv2, rfl⟩ := hav (by omega)
    rw [ev]
    rw [o_index (by omega) (by omega)]
    simp only [Int.toNat_zero, Nat.zero_mul, Nat.add_zero]
    rw [ev] at h
    refine osl_store h (c := cv) (n := 256) (i := 0) (by omega) rfl fun w h => ?_
    rw [i64_of (by omega) (by omega)]
    rw [← ev] at h
    refine hag _ _ _ (by omega) ⟨i + 1, xss.set i (xss[i].set 0 (.int .u8 200)), rfl, rfl, by omega, by simpa using hxl, fun ys hy => ?_, ?_⟩
    · rcases List.mem_or_eq_of_mem_set hy with hy | rfl
      · exact hx ys hy
      · simpa using hxi
    · rw [rows_set us xss i (by omega) (by omega), List.length_set, hxi]
      exact h.perm (by ac_rfl)
  have h := h.drop.drop
  refine Writes_spec h (by omega) fun vw w h => ?_
  obtain ⟨aw, cw, rfl, _, _, haw⟩ := osl_shape h
  refine lp_nat (fun n σ w => ∃ (i : Nat) (xs : List Value), σ = [.int .i64 i] ∧ n = (W.map (fun p : Int × List UInt8 => p.1)).length - i ∧ i ≤ (W.map (fun p : Int × List UInt8 => p.1)).length ∧
    sat E w (osl 3 1 (.slice aw (W.map (fun p : Int × List UInt8 => p.1)).length cw) (W.map (fun p : Int × List UInt8 => p.1)).length xs * (dsk f Lf Wv * (dsk d L W * (rdsk r (Z 4) V * H))))) (W.map (fun p : Int × List UInt8 => p.1)).length ⟨0, _, rfl, rfl, by omega, h⟩ ?_
  rintro n σ w again2 ⟨i, xs, rfl, rfl, hi, h⟩ hag2
  have hml : (W.map (fun p : Int × List UInt8 => p.1)).length = W.length := by simp
  simp only [↓o_nil, ↓o_field, ↓o_add, ↓o_sub, ↓o_mul, ↓o_lss, ↓o_leq, ↓o_gtr, ↓o_geq, ↓o_not, ↓o_pick, ↓o_eqInt, ↓o_neInt, ↓o_eqBool, ↓o_neBool, ↓o_eqPtr, ↓o_nePtr, ↓o_eqPtr', ↓o_eqSl, ↓o_neSl, ↓o_eqStr, ↓o_neStr, ↓o_len, ↓o_lenS, ↓o_min, ↓o_max, ↓o_extract, ↓o_convInt, ↓cd_true, ↓cd_false, ↓gate_tt, ↓gate_ff, ↓gate_tf, ↓gate_ft, ↓gate_undef, ↓pop_cons, ↓fin_nil, Option.isNone_none, Option.isNone_some, Bool.not_true, Bool.not_false, Nat.zero_add, decide_true, decide_false, if_true, if_false, Bool.false_eq_true, ↓reduceIte]
  refine cd_dec (fun hlt => ?_) (fun hge => ?_)
  · obtain ⟨bw, rfl⟩ := haw (by omega)
    rw [o_index (by omega) (by omega)]
    simp only [Int.toNat_natCast, Nat.mul_one, Nat.zero_add]
    refine osl_store h (c := cw) (n := (W.map (fun p : Int × List UInt8 => p.1)).length) (i := i) (by omega) rfl fun w h => ?_
    rw [i64_of (by omega) (by omega)]
    exact hag2 _ _ _ (by omega) ⟨i + 1, _, rfl, rfl, by omega, h⟩
  have h := h.drop
  have hd0 : L[0].length = 256 := inv.wf.l _ (List.getElem_mem (by omega))
  refine Read_spec h (n := 0) (by omega) (by omega) fun vr w h => ?_
  rw [hd0] at h
  obtain ⟨br, cr, sp, rfl, _, _, _, _⟩ := osl_open h (by omega)
  simp only [↓o_nil, ↓o_field, ↓o_add, ↓o_sub, ↓o_mul, ↓o_lss, ↓o_leq, ↓o_gtr, ↓o_geq, ↓o_not, ↓o_pick, ↓o_eqInt, ↓o_neInt, ↓o_eqBool, ↓o_neBool, ↓o_eqPtr, ↓o_nePtr, ↓o_eqPtr', ↓o_eqSl, ↓o_neSl, ↓o_eqStr, ↓o_neStr, ↓o_len, ↓o_lenS, ↓o_min, ↓o_max, ↓o_extract, ↓o_convInt, ↓cd_true, ↓cd_false, ↓gate_tt, ↓gate_ff, ↓gate_tf, ↓gate_ft, ↓gate_undef, ↓pop_cons, ↓fin_nil, Option.isNone_none, Option.isNone_some, Bool.not_true, Bool.not_false, Nat.zero_add, decide_true, decide_false, if_true, if_false, Bool.false_eq_true, ↓reduceIte]
  refine jn_cut (fun σ w => σ = [] ∧ sat E w (dsk f Lf Wv * (dsk d L W * (rdsk r (Z 4) V * H)))) ?_ ?_
  · intro kk hk
    have e1 : (0 : Int) < ((256 : Nat) : Int) := by decide
    simp only [e1, ↓o_nil, ↓o_field, ↓o_add, ↓o_sub, ↓o_mul, ↓o_lss, ↓o_leq, ↓o_gtr, ↓o_geq, ↓o_not, ↓o_pick, ↓o_eqInt, ↓o_neInt, ↓o_eqBool, ↓o_neBool, ↓o_eqPtr, ↓o_nePtr, ↓o_eqPtr', ↓o_eqSl, ↓o_neSl, ↓o_eqStr, ↓o_neStr, ↓o_len, ↓o_lenS, ↓o_min, ↓o_max, ↓o_extract, ↓o_convInt, ↓cd_true, ↓cd_false, ↓gate_tt, ↓gate_ff, ↓gate_tf, ↓gate_ft, ↓gate_undef, ↓pop_cons, ↓fin_nil, Option.isNone_none, Option.isNone_some, Bool.not_true, Bool.not_false, Nat.zero_add, decide_true, decide_false, if_true, if_false, Bool.false_eq_true, ↓reduceIte]
    rw [o_index (by omega) (by omega)]
    simp only [Int.toNat_zero, Nat.zero_mul, Nat.add_zero]
    refine osl_store h (c := cr) (n := 256) (i := 0) (by omega) rfl fun w h => ?_
    exact hk _ _ ⟨rfl, h.drop.perm (by ac_rfl)⟩
  · rintro σ w ⟨rfl, h⟩
    simp only [↓o_nil, ↓o_field, ↓o_add, ↓o_sub, ↓o_mul, ↓o_lss, ↓o_leq, ↓o_gtr, ↓o_geq, ↓o_not, ↓o_pick, ↓o_eqInt, ↓o_neInt, ↓o_eqBool, ↓o_neBool, ↓o_eqPtr, ↓o_nePtr, ↓o_eqPtr', ↓o_eqSl, ↓o_neSl, ↓o_eqStr, ↓o_neStr, ↓o_len, ↓o_lenS, ↓o_min, ↓o_max, ↓o_extract, ↓o_convInt, ↓cd_true, ↓cd_false, ↓gate_tt, ↓gate_ff, ↓gate_tf, ↓gate_ft, ↓gate_undef, ↓pop_cons, ↓fin_nil, Option.isNone_none, Option.isNone_some, Bool.not_true, Bool.not_false, Nat.zero_add, decide_true, decide_false, if_true, if_false, Bool.false_eq_true, ↓reduceIte]
    refine Image_spec h inv.wf fun vc us w h => ?_
    refine rImage_spec h inv.wfv (by omega) fun vd us2 w h => ?_
    rw [hred, hZ, ← hLl] at h
    refine SameAll_spec h (v := vc) (u := vd) (L := L) (M := L) (rdd_of2 h us L) (rdd_of2 h us2 L) (by omega) (fun l hl => by rw [inv.wf.l l hl]; omega) fun w h => ?_
    simp only [↓o_nil, ↓o_field, ↓o_add, ↓o_sub, ↓o_mul, ↓o_lss, ↓o_leq, ↓o_gtr, ↓o_geq, ↓o_not, ↓o_pick, ↓o_eqInt, ↓o_neInt, ↓o_eqBool, ↓o_neBool, ↓o_eqPtr, ↓o_nePtr, ↓o_eqPtr', ↓o_eqSl, ↓o_neSl, ↓o_eqStr, ↓o_neStr, ↓o_len, ↓o_lenS, ↓o_min, ↓o_max, ↓o_extract, ↓o_convInt, ↓cd_true, ↓cd_false, ↓gate_tt, ↓gate_ff, ↓gate_tf, ↓gate_ft, ↓gate_undef, ↓pop_cons, ↓fin_nil, Option.isNone_none, Option.isNone_some, Bool.not_true, Bool.not_false, Nat.zero_add, decide_true, decide_false, if_true, if_false, Bool.false_eq_true, ↓reduceIte]
    refine Writes_spec h (by omega) fun va w h => ?_
    refine rWrites_spec h (by omega) fun vb w h => ?_
    rw [inv.fst] at h
    refine SameInts_spec h (v := va) (u := vb) (l := W.map (fun p : Int × List UInt8 => p.1)) (m := W.map (fun p : Int × List UInt8 => p.1)) Rds.own Rds.own (by simp; omega) fun w h => ?_
    simp only [↓o_nil, ↓o_field, ↓o_add, ↓o_sub, ↓o_mul, ↓o_lss, ↓o_leq, ↓o_gtr, ↓o_geq, ↓o_not, ↓o_pick, ↓o_eqInt, ↓o_neInt, ↓o_eqBool, ↓o_neBool, ↓o_eqPtr, ↓o_nePtr, ↓o_eqPtr', ↓o_eqSl, ↓o_neSl, ↓o_eqStr, ↓o_neStr, ↓o_len, ↓o_lenS, ↓o_min, ↓o_max, ↓o_extract, ↓o_convInt, ↓cd_true, ↓cd_false, ↓gate_tt, ↓gate_ff, ↓gate_tf, ↓gate_ft, ↓gate_undef, ↓pop_cons, ↓fin_nil, Option.isNone_none, Option.isNone_some, Bool.not_true, Bool.not_false, Nat.zero_add, decide_true, decide_false, if_true, if_false, Bool.false_eq_true, ↓reduceIte]
    refine Count_spec h ?_
    refine Count_spec h ?_
    have e2 : (W.length : Int) ≤ (Wv.length : Int) := by omega
    simp only [e2, ↓o_nil, ↓o_field, ↓o_add, ↓o_sub, ↓o_mul, ↓o_lss, ↓o_leq, ↓o_gtr, ↓o_geq, ↓o_not, ↓o_pick, ↓o_eqInt, ↓o_neInt, ↓o_eqBool, ↓o_neBool, ↓o_eqPtr, ↓o_nePtr, ↓o_eqPtr', ↓o_eqSl, ↓o_neSl, ↓o_eqStr, ↓o_neStr, ↓o_len, ↓o_lenS, ↓o_min, ↓o_max, ↓o_extract, ↓o_convInt, ↓cd_true, ↓cd_false, ↓gate_tt, ↓gate_ff, ↓gate_tf, ↓gate_ft, ↓gate_undef, ↓pop_cons, ↓fin_nil, Option.isNone_none, Option.isNone_some, Bool.not_true, Bool.not_false, Nat.zero_add, decide_true, decide_false, if_true, if_false, Bool.false_eq_true, ↓reduceIte]
    refine Fork_spec h (by omega) (by omega) fun f2 w h => ?_
    refine Same_spec h (by omega) fun w h => ?_
    simp only [↓o_nil, ↓o_field, ↓o_add, ↓o_sub, ↓o_mul, ↓o_lss, ↓o_leq, ↓o_gtr, ↓o_geq, ↓o_not, ↓o_pick, ↓o_eqInt, ↓o_neInt, ↓o_eqBool, ↓o_neBool, ↓o_eqPtr, ↓o_nePtr, ↓o_eqPtr', ↓o_eqSl, ↓o_neSl, ↓o_eqStr, ↓o_neStr, ↓o_len, ↓o_lenS, ↓o_min, ↓o_max, ↓o_extract, ↓o_convInt, ↓cd_true, ↓cd_false, ↓gate_tt, ↓gate_ff, ↓gate_tf, ↓gate_ft, ↓gate_undef, ↓pop_cons, ↓fin_nil, Option.isNone_none, Option.isNone_some, Bool.not_true, Bool.not_false, Nat.zero_add, decide_true, decide_false, if_true, if_false, Bool.false_eq_true, ↓reduceIte]
    exact k w (h.split H).drop'

theorem Forks_spec (h : sat E w H) {lv mv : Value} (ds : List Dd) (hl : Rds H lv ds.length (dcells ds)) (hm : ds.length ≤ 9223372036854775807) (ms : List Dd) (hl2 : Rds H mv ms.length (dcells ms)) (hm2 : ms.length ≤ 9223372036854775807)
    (k : ∀ w', sat E w' H → K (.bool true) w') : Calls prog 9 #[lv, mv] w (Ret K) := by
  obtain ⟨a, c, rfl, hc, hl2, ha⟩ := hl2.shape h
  refine c9 ?_
  unfold B9
  refine play_spec h (n := 4) (by omega) (by omega) hl hm fun d r L W V w inv hW h => ?_
  simp only [↓o_nil, ↓o_field, ↓o_add, ↓o_sub, ↓o_mul, ↓o_lss, ↓o_leq, ↓o_gtr, ↓o_geq, ↓o_not, ↓o_pick, ↓o_eqInt, ↓o_neInt, ↓o_eqBool, ↓o_neBool, ↓o_eqPtr, ↓o_nePtr, ↓o_eqPtr', ↓o_eqSl, ↓o_neSl, ↓o_eqStr, ↓o_neStr, ↓o_len, ↓o_lenS, ↓o_min, ↓o_max, ↓o_extract, ↓o_convInt, ↓cd_true, ↓cd_false, ↓gate_tt, ↓gate_ff, ↓gate_tf, ↓gate_ft, ↓gate_undef, ↓pop_cons, ↓fin_nil, Option.isNone_none, Option.isNone_some, Bool.not_true, Bool.not_false, Nat.zero_add, decide_true, decide_false, if_true, if_false, Bool.false_eq_true, ↓reduceIte]
  refine live_spec h fun w h => ?_
  simp only [↓o_nil, ↓o_field, ↓o_add, ↓o_sub, ↓o_mul, ↓o_lss, ↓o_leq, ↓o_gtr, ↓o_geq, ↓o_not, ↓o_pick, ↓o_eqInt, ↓o_neInt, ↓o_eqBool, ↓o_neBool, ↓o_eqPtr, ↓o_nePtr, ↓o_eqPtr', ↓o_eqSl, ↓o_neSl, ↓o_eqStr, ↓o_neStr, ↓o_len, ↓o_lenS, ↓o_min, ↓o_max, ↓o_extract, ↓o_convInt, ↓cd_true, ↓cd_false, ↓gate_tt, ↓gate_ff, ↓gate_tf, ↓gate_ft, ↓gate_undef, ↓pop_cons, ↓fin_nil, Option.isNone_none, Option.isNone_some, Bool.not_true, Bool.not_false, Nat.zero_add, decide_true, decide_false, if_true, if_false, Bool.false_eq_true, ↓reduceIte]
  have hLl := inv.len
  refine Fork_spec h (by omega) (by omega) fun f w h => ?_
  refine lp_nat (fun n σ w => ∃ (i : Nat) (Lf : List (List UInt8)) (Wv : List (Int × List UInt8)), σ = [.int .i64 i] ∧ n = 40 - i ∧ i ≤ 40 ∧ W.length ≤ Wv.length ∧ Wv.length ≤ 40 + i ∧
    sat E w (dsk f Lf Wv * (dsk d L W * (rdsk r (Z 4) V * H)))) 40 ⟨0, L, W, rfl, rfl, by omega, Nat.le_refl _, by omega, h⟩ ?_
  rintro n σ w again ⟨i, Lf, Wv, rfl, rfl, hi, hWv, hWv2, h⟩ hag
  simp only [↓o_nil, ↓o_field, ↓o_add, ↓o_sub, ↓o_mul, ↓o_lss, ↓o_leq, ↓o_gtr, ↓o_geq, ↓o_not, ↓o_pick, ↓o_eqInt, ↓o_neInt, ↓o_eqBool, ↓o_neBool, ↓o_eqPtr, ↓o_nePtr, ↓o_eqPtr', ↓o_eqSl, ↓o_neSl, ↓o_eqStr, ↓o_neStr, ↓o_len, ↓o_lenS, ↓o_min, ↓o_max, ↓o_extract, ↓o_convInt, ↓cd_true, ↓cd_false, ↓gate_tt, ↓gate_ff, ↓gate_tf, ↓gate_ft, ↓gate_undef, ↓pop_cons, ↓fin_nil, Option.isNone_none, Option.isNone_some, Bool.not_true, Bool.not_false, Nat.zero_add, decide_true, decide_false, if_true, if_false, Bool.false_eq_true, ↓reduceIte]
  by_cases hlt : (i : Int) < (ms.length : Nat)
  · by_cases h40 : (i : Int) < 40
    · simp only [hlt, h40, ↓o_nil, ↓o_field, ↓o_add, ↓o_sub, ↓o_mul, ↓o_lss, ↓o_leq, ↓o_gtr, ↓o_geq, ↓o_not, ↓o_pick, ↓o_eqInt, ↓o_neInt, ↓o_eqBool, ↓o_neBool, ↓o_eqPtr, ↓o_nePtr, ↓o_eqPtr', ↓o_eqSl, ↓o_neSl, ↓o_eqStr, ↓o_neStr, ↓o_len, ↓o_lenS, ↓o_min, ↓o_max, ↓o_extract, ↓o_convInt, ↓cd_true, ↓cd_false, ↓gate_tt, ↓gate_ff, ↓gate_tf, ↓gate_ft, ↓gate_undef, ↓pop_cons, ↓fin_nil, Option.isNone_none, Option.isNone_some, Bool.not_true, Bool.not_false, Nat.zero_add, decide_true, decide_false, if_true, if_false, Bool.false_eq_true, ↓reduceIte]
      have hlt : i < ms.length := by omega
      have hin := inv.len
      refine dr_sl h fun w h _ => ?_
      have hwin := hl2.win ((h.split H).drop')
      obtain ⟨b, o, rfl, _⟩ := win_cell hwin (j := i * 3) (by rw [dcells_length]; omega)
      rw [o_index (by omega) (by omega)]
      simp only [Int.toNat_natCast, ↓o_nil, ↓o_field, ↓o_add, ↓o_sub, ↓o_mul, ↓o_lss, ↓o_leq, ↓o_gtr, ↓o_geq, ↓o_not, ↓o_pick, ↓o_eqInt, ↓o_neInt, ↓o_eqBool, ↓o_neBool, ↓o_eqPtr, ↓o_nePtr, ↓o_eqPtr', ↓o_eqSl, ↓o_neSl, ↓o_eqStr, ↓o_neStr, ↓o_len, ↓o_lenS, ↓o_min, ↓o_max, ↓o_extract, ↓o_convInt, ↓cd_true, ↓cd_false, ↓gate_tt, ↓gate_ff, ↓gate_tf, ↓gate_ft, ↓gate_undef, ↓pop_cons, ↓fin_nil, Option.isNone_none, Option.isNone_some, Bool.not_true, Bool.not_false, Nat.zero_add, decide_true, decide_false, if_true, if_false, Bool.false_eq_true, ↓reduceIte, Nat.add_zero]
      rw [o_index (by omega) (by omega)]
      simp only [Int.toNat_natCast, ↓o_nil, ↓o_field, ↓o_add, ↓o_sub, ↓o_mul, ↓o_lss, ↓o_leq, ↓o_gtr, ↓o_geq, ↓o_not, ↓o_pick, ↓o_eqInt, ↓o_neInt, ↓o_eqBool, ↓o_neBool, ↓o_eqPtr, ↓o_nePtr, ↓o_eqPtr', ↓o_eqSl, ↓o_neSl, ↓o_eqStr, ↓o_neStr, ↓o_len, ↓o_lenS, ↓o_min, ↓o_max, ↓o_extract, ↓o_convInt, ↓cd_true, ↓cd_false, ↓gate_tt, ↓gate_ff, ↓gate_tf, ↓gate_ft, ↓gate_undef, ↓pop_cons, ↓fin_nil, Option.isNone_none, Option.isNone_some, Bool.not_true, Bool.not_false, Nat.zero_add, decide_true, decide_false, if_true, if_false, Bool.false_eq_true, ↓reduceIte, Nat.add_zero]
      obtain ⟨g0, g1, g2⟩ := dcells_get ms i hlt
      refine ld_cell (hwin.cell b o rfl _ _ g0) ?_
      refine ld_dd (lv := .bool true) (c := 0) hwin hlt ?_
      refine bytes_spec h ms[i] fun v w h => ?_
      refine st_cell ((hl2.win ((h.split H).drop')).cell b o rfl _ _ g0) ?_
      refine Write_any h ms[i] (by omega) Rds.own fun w h => ?_
      refine st_dd (hl2.win ((h.split H).drop')) hlt ?_
      rw [i64_of (by omega) (by omega)]
      have h1 := wW_length Lf Wv ms[i]
      have h2 : Wv.length ≤ (wW Lf Wv ms[i]).length := by unfold wW; split <;> simp
      refine hag _ _ _ (by omega) ⟨i + 1, _, _, rfl, rfl, by omega, Nat.le_trans hWv h2, by omega, (h.perm (star_left_comm _ _ _)).drop⟩
    · simp only [hlt, h40, ↓o_nil, ↓o_field, ↓o_add, ↓o_sub, ↓o_mul, ↓o_lss, ↓o_leq, ↓o_gtr, ↓o_geq, ↓o_not, ↓o_pick, ↓o_eqInt, ↓o_neInt, ↓o_eqBool, ↓o_neBool, ↓o_eqPtr, ↓o_nePtr, ↓o_eqPtr', ↓o_eqSl, ↓o_neSl, ↓o_eqStr, ↓o_neStr, ↓o_len, ↓o_lenS, ↓o_min, ↓o_max, ↓o_extract, ↓o_convInt, ↓cd_true, ↓cd_false, ↓gate_tt, ↓gate_ff, ↓gate_tf, ↓gate_ft, ↓gate_undef, ↓pop_cons, ↓fin_nil, Option.isNone_none, Option.isNone_some, Bool.not_true, Bool.not_false, Nat.zero_add, decide_true, decide_false, if_true, if_false, Bool.false_eq_true, ↓reduceIte]
      exact tail_spec (n := 0) inv hW hWv (by omega) h k
  · simp only [hlt, ↓o_nil, ↓o_field, ↓o_add, ↓o_sub, ↓o_mul, ↓o_lss, ↓o_leq, ↓o_gtr, ↓o_geq, ↓o_not, ↓o_pick, ↓o_eqInt, ↓o_neInt, ↓o_eqBool, ↓o_neBool, ↓o_eqPtr, ↓o_nePtr, ↓o_eqPtr', ↓o_eqSl, ↓o_neSl, ↓o_eqStr, ↓o_neStr, ↓o_len, ↓o_lenS, ↓o_min, ↓o_max, ↓o_extract, ↓o_convInt, ↓cd_true, ↓cd_false, ↓gate_tt, ↓gate_ff, ↓gate_tf, ↓gate_ft, ↓gate_undef, ↓pop_cons, ↓fin_nil, Option.isNone_none, Option.isNone_some, Bool.not_true, Bool.not_false, Nat.zero_add, decide_true, decide_false, if_true, if_false, Bool.false_eq_true, ↓reduceIte]
    exact tail_spec (n := 0) inv hW hWv (by omega) h k
theorem walk (W : World) {H : Type} (enc : TypeId × Value → H) (args : Array Value) (ds : List (DataW H)) (ps : List MemPlace)
    (hval : ∀ (j : Nat) t v, Try.f9.params.toList[j]? = some t → args.toList[j]? = some v → ∃ base, Value.okWide Try.checked.prog W .any base t v)
    (hA : DataW.TrodAll enc Try.checked.prog W 0 (fun _ => true) true Try.f9.params.toList args.toList ds ps) :
    Calls Try.checked.prog 9 args W (Ret fun v W' => v = .bool true ∧ Below W.heap.size W W') := by
  rw [show Try.f9.params.toList = [22, 22] by kernel_rfl] at hval hA
  obtain ⟨v0, vs0, d0, ds0, p0, q0, hargs, rfl, rfl, h0, r0'⟩ := trodAll_cons hA
  obtain ⟨v1, vs1, d1, ds1, p1, q1, rfl, rfl, rfl, h1, r1'⟩ := trodAll_cons r0'
  obtain ⟨rfl, rfl, rfl⟩ := trodAll_nil r1'
  obtain rfl : args = #[v0, v1] := by cases args; simp_all
  obtain ⟨b0, o0⟩ := hval 0 22 v0 rfl rfl
  obtain ⟨b1, o1⟩ := hval 1 22 v1 rfl rfl
  obtain ⟨x0, rx0, mx0⟩ := open_dds o0 h0
  obtain ⟨x1, rx1, mx1⟩ := open_dds o1 h1
  exact Forks_spec (sat.start W) x0 rx0 mx0 x1 rx1 mx1 fun w' h => ⟨rfl, sat.below (h.whole)⟩

theorem lifted (os : Os) (started : os.Started) (H : Type) (enc : TypeId × Value → H) :
    ReturnsInHanded {} Try.checked os 9 .any (Rows.blockForksSpec.pre6 enc Try.prog Try.f9 Rows.blockForksRow.domain false) (Rows.blockForksSpec.post enc Try.prog Try.f9 false true false false) := by
  refine law_lifted (C := Try.checked) (tb := 4) (by kernel_rfl) started (by kernel_rfl) Try.func9
    (ChangeSpec.witness6 (enc := enc) (C := Try.checked) false ⟨#[], #[.slice none 0 0, .slice none 0 0], []⟩ 8 (by kernel_rfl) (by kernel_rfl) (by kernel_rfl) (by kernel_rfl))
    (by kernel_rfl) (by kernel_rfl) (by kernel_rfl) (by kernel_rfl) rfl ?_ ?_
  · intro ds hd
    rw [show Try.f9.params.toList = [22, 22] by kernel_rfl] at hd
    match ds, hd with
    | [a0, a1], _ => rfl
  · exact fun W args ds ps => walk W enc args ds ps

theorem proved : Rows.BlockForksSaid :=
  OpenClaim.holds_of_wide 9 Try.f9 rfl rfl rfl rfl rfl rfl rfl ⟨rfl, rfl, rfl, rfl, rfl⟩ rfl rfl rfl rfl rfl (by kernel_rfl) Try.func9 (by kernel_rfl)
    (of_decide_eq_true (by kernel_rfl)) (by unfold Func.isWrapper; first | (rw [if_pos (by decide +kernel)]; kernel_rfl) | (rw [if_neg (by decide +kernel)]; exact ⟨rfl, rfl⟩))
    (fun os started H enc _ => lifted os started H enc)
#print axioms proved
end Go.Proofs.Yteplajobjlehlaa.Forks
