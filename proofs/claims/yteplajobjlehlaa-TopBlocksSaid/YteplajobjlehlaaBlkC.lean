/-
  The disk: what it is, and its small methods.
-/
import Derived.Test.YteplajobjlehlaaBlkA
set_option linter.all false
set_option maxRecDepth 10000
namespace Go.Proofs.Yteplajobjlehlaa
open Go Hold
variable {E : World0} {w : World} {H R : HP} {K : Value → World → Prop}

/-- The cells of writes: numbers, and slices. -/
def wcells (ws : List (Int × Value)) : List Value := ws.flatMap fun p => [.int .i64 p.1, p.2]
/-- Each of these slices reads so, for ever. -/
def immAll (vs : List Value) (L : List (List UInt8)) : PP :=
  ⟨fun I => vs.length = L.length ∧ ∀ (i : Nat) (v : Value) (l : List UInt8), vs[i]? = some v → L[i]? = some l → RdS I v l.length (l.map bv), fun hI h => ⟨h.1, fun i v l a b => (h.2 i v l a b).mono hI⟩⟩
/-- A disk at d: blocks L, writes W. -/
def dsk (d : Nat) (L : List (List UInt8)) (W : List (Int × List UInt8)) : HP :=
  ex fun q : Value × List Value × Value × List (Int × Value) =>
    pts d (.cells [q.1, q.2.2.1, .int .i64 W.length].toArray 79 (0, 0)) *
    (osl 32 1 q.1 L.length q.2.1 * (osl 81 2 q.2.2.1 W.length (wcells q.2.2.2) * (pers (immAll q.2.1 L) * pers (immAll (q.2.2.2.map (·.2)) (W.map (·.2))) * pur (q.2.2.2.map (·.1) = W.map (·.1)))))

theorem sat_dsk {d : Nat} {L : List (List UInt8)} {W : List (Int × List UInt8)} : sat E w (dsk d L W * R) ↔
    ∃ lv vs wv ws, ws.map (·.1) = W.map (·.1) ∧ sat E w (pts d (.cells [lv, wv, .int .i64 W.length].toArray 79 (0, 0)) * (osl 32 1 lv L.length vs * (osl 81 2 wv W.length (wcells ws) * (pers (immAll vs L) * (pers (immAll (ws.map (·.2)) (W.map (·.2))) * R))))) := by
  unfold dsk
  rw [sat_ex_star]
  constructor
  · rintro ⟨⟨lv, vs, wv, ws⟩, h⟩
    simp only at h
    have h2 : sat E w (pur (ws.map (·.1) = W.map (·.1)) * (pts d (.cells [lv, wv, .int .i64 W.length].toArray 79 (0, 0)) * (osl 32 1 lv L.length vs * (osl 81 2 wv W.length (wcells ws) * (pers (immAll vs L) * (pers (immAll (ws.map (·.2)) (W.map (·.2))) * R)))))) := h.perm (by ac_rfl)
    rw [sat_pur_star] at h2
    exact ⟨lv, vs, wv, ws, h2.1, h2.2⟩
  · rintro ⟨lv, vs, wv, ws, e, h⟩
    refine ⟨⟨lv, vs, wv, ws⟩, ?_⟩
    have h2 : sat E w (pur (ws.map (·.1) = W.map (·.1)) * (pts d (.cells [lv, wv, .int .i64 W.length].toArray 79 (0, 0)) * (osl 32 1 lv L.length vs * (osl 81 2 wv W.length (wcells ws) * (pers (immAll vs L) * (pers (immAll (ws.map (·.2)) (W.map (·.2))) * R)))))) := sat_pur_star.2 ⟨e, h⟩
    exact h2.perm (by ac_rfl)

/-- A disk is held. -/
class DskS (H : HP) (d : Nat) (L : outParam (List (List UInt8))) (W : outParam (List (Int × List UInt8))) (R : outParam HP) : Prop where eq : H = dsk d L W * R
instance (priority := 1100) DskS.here (d : Nat) (L : List (List UInt8)) (W : List (Int × List UInt8)) (R : HP) : DskS (dsk d L W * R) d L W R := ⟨rfl⟩
instance (priority := 1050) DskS.there (d : Nat) (L : List (List UInt8)) (W : List (Int × List UInt8)) (R : HP) : DskS (R * dsk d L W) d L W R := ⟨star_comm _ _⟩
instance (priority := 900) DskS.right (P1 P2 : HP) (d : Nat) (L : List (List UInt8)) (W : List (Int × List UInt8)) (R : HP) [h : DskS P2 d L W R] : DskS (P1 * P2) d L W (P1 * R) := ⟨by rw [h.eq, star_left_comm]⟩
instance (priority := 800) DskS.left (P1 P2 : HP) (d : Nat) (L : List (List UInt8)) (W : List (Int × List UInt8)) (R : HP) [h : DskS P1 d L W R] : DskS (P1 * P2) d L W (R * P2) := ⟨by rw [h.eq, star_assoc]⟩
instance (priority := 100) DskS.all (d : Nat) (L : List (List UInt8)) (W : List (Int × List UInt8)) : DskS (dsk d L W) d L W emp := ⟨(star_emp _).symm⟩
theorem _root_.Hold.sat.dsks (h : sat E w H) (d : Nat) {L : List (List UInt8)} {W : List (Int × List UInt8)} [s : DskS H d L W R] : sat E w (dsk d L W * R) := h.perm s.eq
/-! ### The counter -/
theorem atomicLoad_run {a : Addr} {n : Int} (h : w.cell? a = some (.int .i64 n)) : (oCall (.func (.func 56) #[] #[]) #[.pointer (some a)]).run prog w = .ok (.value (.int .i64 n)) w := by
  rw [oCall_run]
  exact run_call_load Try.func56 (by kernel_rfl) (by kernel_rfl) (by kernel_rfl) .i64 (by kernel_rfl) h
theorem atomicAdd_run {a : Addr} {n m : Int} (h : w.cell? a = some (.int .i64 n)) (hf : w.frozen? a = false) : (oCall (.func (.func 55) #[] #[]) #[.pointer (some a), .int .i64 m]).run prog w = .ok (.value (.int .i64 (IntKind.i64.wrap (n + m)))) (w.setCell a (.int .i64 (IntKind.i64.wrap (n + m)))) := by
  rw [oCall_run]
  exact run_call_add Try.func55 (by kernel_rfl) (by kernel_rfl) (by kernel_rfl) .i64 (by kernel_rfl) h hf rfl
theorem atomicStore_run {a : Addr} {m : Int} {u : Value} (h : w.cell? a = some u) (hf : w.frozen? a = false) : (oCall (.func (.func 59) #[] #[]) #[.pointer (some a), .int .i64 m]).run prog w = .ok (.value (.tuple #[])) (w.setCell a (.int .i64 m)) := by
  rw [oCall_run]
  exact run_call_store Try.func59 (by kernel_rfl) (by kernel_rfl) (by kernel_rfl) (by kernel_rfl) h hf
theorem atLoad_spec (h : sat E w H) {b o e : Nat} {xs : List Value} {n : Int} [hb : Has H b (.cells xs.toArray e (0, 0))] (hx : xs[o]? = some (.int .i64 n)) (k : K (.int .i64 n) w) : Calls prog 44 #[.pointer (some ⟨b, o, none⟩)] w (Ret K) := by
  refine c44 ?_
  unfold B44
  simp only [↓o_nil, ↓o_field, ↓o_add, ↓o_sub, ↓o_mul, ↓o_lss, ↓o_leq, ↓o_gtr, ↓o_geq, ↓o_not, ↓o_pick, ↓o_eqInt, ↓o_neInt, ↓o_eqBool, ↓o_neBool, ↓o_eqPtr, ↓o_nePtr, ↓o_eqPtr', ↓o_eqSl, ↓o_neSl, ↓o_eqStr, ↓o_neStr, ↓o_len, ↓o_lenS, ↓o_min, ↓o_max, ↓o_extract, ↓o_convInt, ↓cd_true, ↓cd_false, ↓gate_tt, ↓gate_ff, ↓gate_tf, ↓gate_ft, ↓gate_undef, ↓pop_cons, ↓fin_nil, Option.isNone_none, Option.isNone_some, Bool.not_true, Bool.not_false, Nat.zero_add, decide_true, decide_false, if_true, if_false, Bool.false_eq_true, ↓reduceIte]
  exact ef_of (atomicLoad_run (cell_of (hb.get h) (by simpa using hx))) k
theorem atAdd_spec (h : sat E w H) {b o e : Nat} {xs : List Value} {n m : Int} [hb : Own H b (.cells xs.toArray e (0, 0)) R] (hx : xs[o]? = some (.int .i64 n))
    (k : ∀ w', sat E w' (pts b (.cells (xs.set o (.int .i64 (IntKind.i64.wrap (n + m)))).toArray e (0, 0)) * R) → K (.int .i64 (IntKind.i64.wrap (n + m))) w') : Calls prog 41 #[.pointer (some ⟨b, o, none⟩), .int .i64 m] w (Ret K) := by
  have h2 := h.own b
  have hg := h2.pts_get
  refine c41 ?_
  unfold B41
  simp only [↓o_nil, ↓o_field, ↓o_add, ↓o_sub, ↓o_mul, ↓o_lss, ↓o_leq, ↓o_gtr, ↓o_geq, ↓o_not, ↓o_pick, ↓o_eqInt, ↓o_neInt, ↓o_eqBool, ↓o_neBool, ↓o_eqPtr, ↓o_nePtr, ↓o_eqPtr', ↓o_eqSl, ↓o_neSl, ↓o_eqStr, ↓o_neStr, ↓o_len, ↓o_lenS, ↓o_min, ↓o_max, ↓o_extract, ↓o_convInt, ↓cd_true, ↓cd_false, ↓gate_tt, ↓gate_ff, ↓gate_tf, ↓gate_ft, ↓gate_undef, ↓pop_cons, ↓fin_nil, Option.isNone_none, Option.isNone_some, Bool.not_true, Bool.not_false, Nat.zero_add, decide_true, decide_false, if_true, if_false, Bool.false_eq_true, ↓reduceIte]
  refine ef_of (atomicAdd_run (cell_of hg (by simpa using hx)) (by simp [World.frozen?, hg])) (k _ ?_)
  have : w.setCell ⟨b, o + 0, none⟩ (.int .i64 (IntKind.i64.wrap (n + m))) = w.putObj b (.cells (xs.set o (.int .i64 (IntKind.i64.wrap (n + m)))).toArray e (0, 0)) := by
    have := setCell_eq_setRow w b (o + 0) xs.toArray e (0, 0) (.int .i64 (IntKind.i64.wrap (n + m))) hg
    rw [this, setRow_putObj hg]
    simp
  rw [this]
  exact h2.set _

/-! ### Small methods -/
theorem Blocks_spec {d : Nat} {L : List (List UInt8)} {W : List (Int × List UInt8)} (h : sat E w H) [s : DskS H d L W R] (k : K (.int .i64 L.length) w) : Calls prog 20 #[.pointer (some ⟨d, 0, none⟩)] w (Ret K) := by
  obtain ⟨lv, vs, wv, ws, e, hd⟩ := sat_dsk.1 (h.dsks d)
  obtain ⟨a, c, rfl, hc, hl, ha⟩ := osl_shape hd.drop
  refine c20 ?_
  unfold B20
  simp only [↓o_nil, ↓o_field, ↓o_add, ↓o_sub, ↓o_mul, ↓o_lss, ↓o_leq, ↓o_gtr, ↓o_geq, ↓o_not, ↓o_pick, ↓o_eqInt, ↓o_neInt, ↓o_eqBool, ↓o_neBool, ↓o_eqPtr, ↓o_nePtr, ↓o_eqPtr', ↓o_eqSl, ↓o_neSl, ↓o_eqStr, ↓o_neStr, ↓o_len, ↓o_lenS, ↓o_min, ↓o_max, ↓o_extract, ↓o_convInt, ↓cd_true, ↓cd_false, ↓gate_tt, ↓gate_ff, ↓gate_tf, ↓gate_ft, ↓gate_undef, ↓pop_cons, ↓fin_nil, Option.isNone_none, Option.isNone_some, Bool.not_true, Bool.not_false, Nat.zero_add, decide_true, decide_false, if_true, if_false, Bool.false_eq_true, ↓reduceIte]
  refine ld_at hd ?_
  simp only [↓o_nil, ↓o_field, ↓o_add, ↓o_sub, ↓o_mul, ↓o_lss, ↓o_leq, ↓o_gtr, ↓o_geq, ↓o_not, ↓o_pick, ↓o_eqInt, ↓o_neInt, ↓o_eqBool, ↓o_neBool, ↓o_eqPtr, ↓o_nePtr, ↓o_eqPtr', ↓o_eqSl, ↓o_neSl, ↓o_eqStr, ↓o_neStr, ↓o_len, ↓o_lenS, ↓o_min, ↓o_max, ↓o_extract, ↓o_convInt, ↓cd_true, ↓cd_false, ↓gate_tt, ↓gate_ff, ↓gate_tf, ↓gate_ft, ↓gate_undef, ↓pop_cons, ↓fin_nil, Option.isNone_none, Option.isNone_some, Bool.not_true, Bool.not_false, Nat.zero_add, decide_true, decide_false, if_true, if_false, Bool.false_eq_true, ↓reduceIte]
  exact k
theorem Count_spec {d : Nat} {L : List (List UInt8)} {W : List (Int × List UInt8)} (h : sat E w H) [s : DskS H d L W R] (k : K (.int .i64 W.length) w) : Calls prog 22 #[.pointer (some ⟨d, 0, none⟩)] w (Ret K) := by
  obtain ⟨lv, vs, wv, ws, e, hd⟩ := sat_dsk.1 (h.dsks d)
  refine c22 ?_
  unfold B22
  simp only [↓o_nil, ↓o_field, ↓o_add, ↓o_sub, ↓o_mul, ↓o_lss, ↓o_leq, ↓o_gtr, ↓o_geq, ↓o_not, ↓o_pick, ↓o_eqInt, ↓o_neInt, ↓o_eqBool, ↓o_neBool, ↓o_eqPtr, ↓o_nePtr, ↓o_eqPtr', ↓o_eqSl, ↓o_neSl, ↓o_eqStr, ↓o_neStr, ↓o_len, ↓o_lenS, ↓o_min, ↓o_max, ↓o_extract, ↓o_convInt, ↓cd_true, ↓cd_false, ↓gate_tt, ↓gate_ff, ↓gate_tf, ↓gate_ft, ↓gate_undef, ↓pop_cons, ↓fin_nil, Option.isNone_none, Option.isNone_some, Bool.not_true, Bool.not_false, Nat.zero_add, decide_true, decide_false, if_true, if_false, Bool.false_eq_true, ↓reduceIte]
  refine atLoad_spec hd (xs := [lv, wv, .int .i64 W.length]) rfl ?_
  exact k

/-- Slices of slices of bytes that read so: their values, and each of them. -/
def Rdd (H : HP) (v : Value) (L : List (List UInt8)) : Prop := ∃ vs : List Value, Rds H v L.length vs ∧ vs.length = L.length ∧ ∀ (i : Nat) (u : Value) (l : List UInt8), vs[i]? = some u → L[i]? = some l → Rds H u l.length (l.map bv)
theorem immAll_rds {vs : List Value} {L : List (List UInt8)} {i : Nat} {u : Value} {l : List UInt8} (h1 : vs[i]? = some u) (h2 : L[i]? = some l) : Rds (pers (immAll vs L)) u l.length (l.map bv) :=
  fun E w hs => (hs.whole.pers_get).2 i u l h1 h2

/-- copied: the blocks of one's own. -/
theorem copied_spec (h : sat E w H) {v : Value} {L : List (List UInt8)} (hr : Rdd H v L) (hn : L.length ≤ 1024) (hl : ∀ l ∈ L, l.length ≤ 140737488355328)
    (k : ∀ v' vs' w', v' ≠ .slice none 0 0 → sat E w' (osl 32 1 v' L.length vs' * (pers (immAll vs' L) * H)) → K v' w') : Calls prog 40 #[v] w (Ret K) := by
  obtain ⟨vs, hv, hlen, hall⟩ := hr
  obtain ⟨a, c, rfl, hc, hv, ha⟩ := hv.shape h
  refine c40 ?_
  unfold B40
  simp only [↓o_nil, ↓o_field, ↓o_add, ↓o_sub, ↓o_mul, ↓o_lss, ↓o_leq, ↓o_gtr, ↓o_geq, ↓o_not, ↓o_pick, ↓o_eqInt, ↓o_neInt, ↓o_eqBool, ↓o_neBool, ↓o_eqPtr, ↓o_nePtr, ↓o_eqPtr', ↓o_eqSl, ↓o_neSl, ↓o_eqStr, ↓o_neStr, ↓o_len, ↓o_lenS, ↓o_min, ↓o_max, ↓o_extract, ↓o_convInt, ↓cd_true, ↓cd_false, ↓gate_tt, ↓gate_ff, ↓gate_tf, ↓gate_ft, ↓gate_undef, ↓pop_cons, ↓fin_nil, Option.isNone_none, Option.isNone_some, Bool.not_true, Bool.not_false, Nat.zero_add, decide_true, decide_false, if_true, if_false, Bool.false_eq_true, ↓reduceIte]
  refine make_sl h rfl (by omega) (by omega) (by omega) (by omega) ?_
  intro b w1 h1
  simp only [↓o_nil, ↓o_field, ↓o_add, ↓o_sub, ↓o_mul, ↓o_lss, ↓o_leq, ↓o_gtr, ↓o_geq, ↓o_not, ↓o_pick, ↓o_eqInt, ↓o_neInt, ↓o_eqBool, ↓o_neBool, ↓o_eqPtr, ↓o_nePtr, ↓o_eqPtr', ↓o_eqSl, ↓o_neSl, ↓o_eqStr, ↓o_neStr, ↓o_len, ↓o_lenS, ↓o_min, ↓o_max, ↓o_extract, ↓o_convInt, ↓cd_true, ↓cd_false, ↓gate_tt, ↓gate_ff, ↓gate_tf, ↓gate_ft, ↓gate_undef, ↓pop_cons, ↓fin_nil, Option.isNone_none, Option.isNone_some, Bool.not_true, Bool.not_false, Nat.zero_add, decide_true, decide_false, if_true, if_false, Bool.false_eq_true, ↓reduceIte, Int.toNat_natCast]
  simp only [Int.toNat_natCast] at h1
  refine lp_nat (fun n σ w => ∃ (i : Nat) (us : List Value), σ = [.int .i64 i] ∧ n = L.length - i ∧ i ≤ L.length ∧ us.length = i ∧
    sat E w (pts b (.cells (us ++ List.replicate (L.length - i) (Value.slice none 0 0)).toArray 32 (0, 0)) * (pers (immAll us (L.take i)) * H))) L.length ⟨0, [], rfl, rfl, by omega, rfl, ?_⟩ ?_
  · have : sat E w1 (pers (immAll [] (L.take 0)) * (pts b (.cells (List.replicate L.length (Value.slice none 0 0)).toArray 32 (0, 0)) * H)) :=
      h1.mono fun I h' hp' => (pers_star_p _ _ _ _).2 ⟨⟨by simp, fun i v l hv => by simp at hv⟩, hp'⟩
    simpa using this.perm (star_left_comm _ _ _)
  · rintro n σ w again ⟨i, us, rfl, rfl, hi, hus, h⟩ hag
    simp only [↓o_nil, ↓o_field, ↓o_add, ↓o_sub, ↓o_mul, ↓o_lss, ↓o_leq, ↓o_gtr, ↓o_geq, ↓o_not, ↓o_pick, ↓o_eqInt, ↓o_neInt, ↓o_eqBool, ↓o_neBool, ↓o_eqPtr, ↓o_nePtr, ↓o_eqPtr', ↓o_eqSl, ↓o_neSl, ↓o_eqStr, ↓o_neStr, ↓o_len, ↓o_lenS, ↓o_min, ↓o_max, ↓o_extract, ↓o_convInt, ↓cd_true, ↓cd_false, ↓gate_tt, ↓gate_ff, ↓gate_tf, ↓gate_ft, ↓gate_undef, ↓pop_cons, ↓fin_nil, Option.isNone_none, Option.isNone_some, Bool.not_true, Bool.not_false, Nat.zero_add, decide_true, decide_false, if_true, if_false, Bool.false_eq_true, ↓reduceIte]
    refine cd_dec (fun hlt => ?_) (fun hge => ?_)
    · have hlt : i < L.length := by omega
      obtain ⟨b', o', rfl, hb'⟩ := win_cell (hv.win h.drop.drop) (j := i) (by omega)
      rw [o_index (by omega) (by omega)]
      simp only [Int.toNat_natCast, Nat.mul_one]
      refine ld_cell hb' ?_
      have hcl := hall i vs[i] L[i] (List.getElem?_eq_getElem (by omega)) (List.getElem?_eq_getElem hlt)
      refine Clone_spec h hcl.right.right (hl _ (List.getElem_mem _)) ?_
      intro v' w2 h2
      have hf := osl_freeze h2
      rw [o_index (by omega) (by omega)]
      simp only [Int.toNat_natCast, Nat.mul_one, ↓o_nil, ↓o_field, ↓o_add, ↓o_sub, ↓o_mul, ↓o_lss, ↓o_leq, ↓o_gtr, ↓o_geq, ↓o_not, ↓o_pick, ↓o_eqInt, ↓o_neInt, ↓o_eqBool, ↓o_neBool, ↓o_eqPtr, ↓o_nePtr, ↓o_eqPtr', ↓o_eqSl, ↓o_neSl, ↓o_eqStr, ↓o_neStr, ↓o_len, ↓o_lenS, ↓o_min, ↓o_max, ↓o_extract, ↓o_convInt, ↓cd_true, ↓cd_false, ↓gate_tt, ↓gate_ff, ↓gate_tf, ↓gate_ft, ↓gate_undef, ↓pop_cons, ↓fin_nil, Option.isNone_none, Option.isNone_some, Bool.not_true, Bool.not_false, Nat.zero_add, decide_true, decide_false, if_true, if_false, Bool.false_eq_true, ↓reduceIte]
      obtain ⟨a3, c3, rfl, _, _, _⟩ := osl_shape h2
      refine store_sl hf rfl (by simp; omega) ?_
      intro w3 h3
      rw [i64_of (by omega) (by omega)]
      refine hag _ _ _ (by omega) ⟨i + 1, us ++ [Value.slice a3 L[i].length c3], rfl, rfl, by omega, by simp [hus], ?_⟩
      have e1 : (us ++ List.replicate (L.length - i) (Value.slice none 0 0)).set i (.slice a3 L[i].length c3) = (us ++ [Value.slice a3 L[i].length c3]) ++ List.replicate (L.length - (i + 1)) (Value.slice none 0 0) := by
        rw [List.set_append_right _ _ (by omega), hus, Nat.sub_self, show L.length - i = (L.length - (i + 1)) + 1 by omega, List.replicate_succ]
        simp
      rw [e1] at h3
      have h4 : sat E w3 (pers (immS (.slice a3 L[i].length c3) L[i].length (L[i].map bv)) * (pers (immAll us (L.take i)) * (pts b (.cells ((us ++ [Value.slice a3 L[i].length c3]) ++ List.replicate (L.length - (i + 1)) (Value.slice none 0 0)).toArray 32 (0, 0)) * H))) := h3.perm (by ac_rfl)
      rw [← star_assoc, pers_and] at h4
      have h5 := h4.pers_mono (ψ := immAll (us ++ [Value.slice a3 L[i].length c3]) (L.take (i + 1))) (fun I hI => by
        refine ⟨by simp [hus]; omega, fun j v l hv hl => ?_⟩
        rcases Nat.lt_trichotomy j i with hj | hj | hj
        · rw [List.getElem?_append_left (by omega)] at hv
          refine hI.2.2 j v l hv ?_
          rw [List.getElem?_take] at hl ⊢
          rw [if_pos (by omega)] at hl; rw [if_pos hj]; exact hl
        · subst hj
          rw [List.getElem?_append_right (by omega), hus, Nat.sub_self] at hv
          simp at hv
          rw [List.getElem?_take, if_pos (by omega), List.getElem?_eq_getElem hlt] at hl
          simp at hl
          subst hl; rw [← hv]; exact hI.1
        · rw [List.getElem?_eq_none (by simp; omega)] at hv; cases hv)
      exact h5.perm (by ac_rfl)
    · have : i = L.length := by omega
      subst this
      refine k (.slice (some ⟨b, 0, none⟩) L.length L.length) us w (by simp) ?_
      simp only [Nat.sub_self, List.replicate_zero, List.append_nil, List.take_length] at h
      exact osl_of h (by omega) (by omega)
end Go.Proofs.Yteplajobjlehlaa
