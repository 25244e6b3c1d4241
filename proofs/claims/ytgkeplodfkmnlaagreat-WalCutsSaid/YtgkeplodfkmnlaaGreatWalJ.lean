/-
  Deeds: groups of pages; what must be whatever is asked.
-/
import Derived.Test.YtgkeplodfkmnlaaGreatDskE
import Derived.Test.YtgkeplodfkmnlaaGreatDskR
import Derived.Test.YtgkeplodfkmnlaaGreatTests
import Derived.Test.YtgkeplodfkmnlaaGreatWalA
set_option linter.all false
set_option maxRecDepth 100000
namespace Go.Proofs.YtgkeplodfkmnlaaGreat
open Go Hold
variable {E : World0} {w : World} {H R X : HP} {K : Value → World → Prop}
structure Dd where
  chk : Bool
  sh : Bool
  v : Value
  ns : List Int
  x : UInt8
def dcells (x : Dd) : List Value := [.bool x.chk, .bool x.sh, x.v, bv x.x]
/-- What its slice tells; how long it is. -/
structure OkD (H : HP) (x : Dd) : Prop where
  rd : Rds H x.v x.ns.length (x.ns.map iv)
  len : x.ns.length ≤ 9223372036854775807
def Dd.row (x : Dd) (i : Nat) : Bs := List.replicate (if x.sh = true ∧ i = 0 then 255 else 256) (x.x + UInt8.ofNat i)
def Dd.pgs (x : Dd) : List (Int × Bs) := (x.ns.take 102).mapIdx fun i n => (n, x.row i)
theorem Dd.pgs_length (x : Dd) : x.pgs.length = min 102 x.ns.length := by simp [Dd.pgs]
theorem Dd.pgs_snoc (x : Dd) {i : Nat} (h : i < x.ns.length) (h2 : i < 102) : ((x.ns.take (i + 1)).mapIdx fun j n => (n, x.row j)) = ((x.ns.take i).mapIdx fun j n => (n, x.row j)) ++ [(x.ns[i], x.row i)] := by
  rw [List.take_succ_eq_append_getElem h, List.mapIdx_append]
  simp [Nat.min_eq_left (Nat.le_of_lt h)]
theorem row_len (x : Dd) (i : Nat) : (x.row i).length ≤ 256 := by unfold Dd.row; rw [List.length_replicate]; split <;> omega
theorem pages_spec (h : sat E w H) (x : Dd) (ok : OkD H x) (k : ∀ v qs w', qs.map (·.1) = x.pgs.map (·.1) → sat E w' (osl 65 2 v x.pgs.length (wcells qs) * (rows (qs.map (·.2)) (bcells (x.pgs.map (·.2))) * H)) → K v w') :
    Calls prog 22 #[.agg (dcells x).toArray] w (Ret K) := by
  obtain ⟨a, c, hxv, hc, hrd, _⟩ := ok.rd.shape h
  have hl := ok.len
  refine c22 ?_
  unfold B22
  refine box_sl h fun q w h => ?_
  have h : sat E w (pts q (.cells [Value.bool x.chk, .bool x.sh, x.v, bv x.x].toArray 31 (0, 0)) * H) := h
  have hfin : ∀ (i : Nat), i ≤ x.ns.length → i ≤ 102 → (i = x.ns.length ∨ i = 102) → ((x.ns.take i).mapIdx fun j n => (n, x.row j)) = x.pgs := fun i h1 h2 h3 => by
    unfold Dd.pgs
    rcases h3 with h3 | h3
    · rw [h3, List.take_length, List.take_of_length_le (by omega)]
    · rw [h3]
  refine lp_nat (fun r σ w => ∃ (i : Nat) (v : Value) (qs : List (Int × Value)), σ = [v, .int .i64 i] ∧ r = 102 - i ∧ i ≤ 102 ∧ i ≤ x.ns.length ∧
    qs.map (·.1) = ((x.ns.take i).mapIdx fun j n => (n, x.row j)).map (·.1) ∧
    sat E w (osl 65 2 v i (wcells qs) * (rows (qs.map (·.2)) (bcells (((x.ns.take i).mapIdx fun j n => (n, x.row j)).map (·.2))) * (pts q (.cells [Value.bool x.chk, .bool x.sh, x.v, bv x.x].toArray 31 (0, 0)) * H)))) 102
    ⟨0, .slice none 0 0, [], rfl, rfl, by omega, by omega, rfl, osl_nil (h.perm (show _ = rows [] [] * (pts q (.cells [Value.bool x.chk, .bool x.sh, x.v, bv x.x].toArray 31 (0, 0)) * H) by rw [show rows [] [] = Hold.emp from rfl, emp_star])) 65 2⟩ ?_
  clear h
  rintro r σ w again ⟨i, v, qs, rfl, rfl, hi, hil, hq, h⟩ hag
  try simp only [↓o_nil, ↓o_field, ↓o_add, ↓o_sub, ↓o_mul, ↓o_lss, ↓o_leq, ↓o_gtr, ↓o_geq, ↓o_not, ↓o_pick, ↓o_eqInt, ↓o_neInt, ↓o_eqBool, ↓o_neBool, ↓o_eqPtr, ↓o_nePtr, ↓o_eqPtr', ↓o_eqSl, ↓o_neSl, ↓o_eqStr, ↓o_neStr, ↓o_len, ↓o_lenS, ↓o_min, ↓o_max, ↓o_extract, ↓o_convInt, ↓cd_true, ↓cd_false, ↓gate_tt, ↓gate_ff, ↓gate_tf, ↓gate_ft, ↓gate_undef, ↓o_bind, ↓stay_v, ↓pop_cons, ↓fin_nil, Option.isNone_none, Option.isNone_some, Bool.not_true, Bool.not_false, Nat.zero_add, decide_true, decide_false, if_true, if_false, Bool.false_eq_true, ↓reduceIte]
  refine ld_at h ?_
  rw [hxv]
  try simp only [↓o_nil, ↓o_field, ↓o_add, ↓o_sub, ↓o_mul, ↓o_lss, ↓o_leq, ↓o_gtr, ↓o_geq, ↓o_not, ↓o_pick, ↓o_eqInt, ↓o_neInt, ↓o_eqBool, ↓o_neBool, ↓o_eqPtr, ↓o_nePtr, ↓o_eqPtr', ↓o_eqSl, ↓o_neSl, ↓o_eqStr, ↓o_neStr, ↓o_len, ↓o_lenS, ↓o_min, ↓o_max, ↓o_extract, ↓o_convInt, ↓cd_true, ↓cd_false, ↓gate_tt, ↓gate_ff, ↓gate_tf, ↓gate_ft, ↓gate_undef, ↓o_bind, ↓stay_v, ↓pop_cons, ↓fin_nil, Option.isNone_none, Option.isNone_some, Bool.not_true, Bool.not_false, Nat.zero_add, decide_true, decide_false, if_true, if_false, Bool.false_eq_true, ↓reduceIte]
  have hstop : (i = x.ns.length ∨ i = 102) → K v w := fun h3 => by
    rw [hfin i hil hi h3] at hq h
    have hpl : x.pgs.length = i := by rw [Dd.pgs_length]; omega
    refine k v qs w hq ?_
    rw [hpl]
    exact (h.perm (show _ = pts q (.cells [Value.bool x.chk, .bool x.sh, x.v, bv x.x].toArray 31 (0, 0)) * (osl 65 2 v i (wcells qs) * (rows (qs.map (·.2)) (bcells (x.pgs.map (·.2))) * H)) by ac_rfl)).drop
  by_cases h1 : (i : Int) < (x.ns.length : Int)
  · by_cases h2 : (i : Int) < 102
    · simp only [h1, h2, ↓o_nil, ↓o_field, ↓o_add, ↓o_sub, ↓o_mul, ↓o_lss, ↓o_leq, ↓o_gtr, ↓o_geq, ↓o_not, ↓o_pick, ↓o_eqInt, ↓o_neInt, ↓o_eqBool, ↓o_neBool, ↓o_eqPtr, ↓o_nePtr, ↓o_eqPtr', ↓o_eqSl, ↓o_neSl, ↓o_eqStr, ↓o_neStr, ↓o_len, ↓o_lenS, ↓o_min, ↓o_max, ↓o_extract, ↓o_convInt, ↓cd_true, ↓cd_false, ↓gate_tt, ↓gate_ff, ↓gate_tf, ↓gate_ft, ↓gate_undef, ↓o_bind, ↓stay_v, ↓pop_cons, ↓fin_nil, Option.isNone_none, Option.isNone_some, Bool.not_true, Bool.not_false, Nat.zero_add, decide_true, decide_false, if_true, if_false, Bool.false_eq_true, ↓reduceIte]
      have hlt : i < x.ns.length := by omega
      refine make_sl h rfl (by omega) (by omega) (by omega) (by omega) fun bb w h => ?_
      have e3 : (256 : Int).toNat = 256 := rfl
      rw [e3] at h ⊢
      have hadd : IntKind.u8.wrap ((x.x.toNat : Int) + IntKind.u8.wrap (i : Int)) = (x.x + UInt8.ofNat i).toNat := by
        rw [IntKind.wrap_u8, IntKind.wrap_u8, UInt8.toNat_add]
        simp only [UInt8.toNat_ofNat']
        omega
      refine lp_nat (fun r σ w => ∃ m : Nat, σ = [.int .i64 m] ∧ r = 256 - m ∧ m ≤ 256 ∧
        sat E w (pts bb (.cells (List.replicate m (bv (x.x + UInt8.ofNat i)) ++ List.replicate (256 - m) (Value.int .u8 0)).toArray 5 (0, 0)) * (osl 65 2 v i (wcells qs) * (rows (qs.map (·.2)) (bcells (((x.ns.take i).mapIdx fun j n => (n, x.row j)).map (·.2))) * (pts q (.cells [Value.bool x.chk, .bool x.sh, x.v, bv x.x].toArray 31 (0, 0)) * H))))) 256 ⟨0, rfl, rfl, by omega, by simpa using h⟩ ?_
      clear h
      rintro r2 σ w again2 ⟨m, rfl, rfl, hm, h⟩ hag2
      try simp only [↓o_nil, ↓o_field, ↓o_add, ↓o_sub, ↓o_mul, ↓o_lss, ↓o_leq, ↓o_gtr, ↓o_geq, ↓o_not, ↓o_pick, ↓o_eqInt, ↓o_neInt, ↓o_eqBool, ↓o_neBool, ↓o_eqPtr, ↓o_nePtr, ↓o_eqPtr', ↓o_eqSl, ↓o_neSl, ↓o_eqStr, ↓o_neStr, ↓o_len, ↓o_lenS, ↓o_min, ↓o_max, ↓o_extract, ↓o_convInt, ↓cd_true, ↓cd_false, ↓gate_tt, ↓gate_ff, ↓gate_tf, ↓gate_ft, ↓gate_undef, ↓o_bind, ↓stay_v, ↓pop_cons, ↓fin_nil, Option.isNone_none, Option.isNone_some, Bool.not_true, Bool.not_false, Nat.zero_add, decide_true, decide_false, if_true, if_false, Bool.false_eq_true, ↓reduceIte]
      refine cd_dec (fun hlt2 => ?_) (fun hge2 => ?_)
      · have hlt2 : m < 256 := by omega
        refine ld_at h ?_
        simp only [bv, ↓o_nil, ↓o_field, ↓o_add, ↓o_sub, ↓o_mul, ↓o_lss, ↓o_leq, ↓o_gtr, ↓o_geq, ↓o_not, ↓o_pick, ↓o_eqInt, ↓o_neInt, ↓o_eqBool, ↓o_neBool, ↓o_eqPtr, ↓o_nePtr, ↓o_eqPtr', ↓o_eqSl, ↓o_neSl, ↓o_eqStr, ↓o_neStr, ↓o_len, ↓o_lenS, ↓o_min, ↓o_max, ↓o_extract, ↓o_convInt, ↓cd_true, ↓cd_false, ↓gate_tt, ↓gate_ff, ↓gate_tf, ↓gate_ft, ↓gate_undef, ↓o_bind, ↓stay_v, ↓pop_cons, ↓fin_nil, Option.isNone_none, Option.isNone_some, Bool.not_true, Bool.not_false, Nat.zero_add, decide_true, decide_false, if_true, if_false, Bool.false_eq_true, ↓reduceIte]
        rw [hadd, o_index (by omega) (by omega)]
        simp only [Int.toNat_natCast, Nat.mul_one, Nat.zero_add]
        refine store_sl (b := bb) h rfl (by simp; omega) fun w h => ?_
        rw [i64_of (by omega) (by omega)]
        refine hag2 _ _ _ (by omega) ⟨m + 1, rfl, rfl, by omega, ?_⟩
        rw [set_fill (by simp) hlt2, show ([Value.int .u8 ((x.x + UInt8.ofNat i).toNat : Int)] : List Value) = [bv (x.x + UInt8.ofNat i)] from rfl, ← List.replicate_succ'] at h
        exact h
      · have hm2 : m = 256 := by omega
        subst hm2
        simp only [Nat.sub_self, List.replicate_zero, List.append_nil] at h
        have hout : ∀ (bt : Value) (w : World) (row : Bs), row = x.row i → bt.oneCell' = true → sat E w (osl 5 1 bt row.length (row.map bv) * (osl 65 2 v i (wcells qs) * (rows (qs.map (·.2)) (bcells (((x.ns.take i).mapIdx fun j n => (n, x.row j)).map (·.2))) * (pts q (.cells [Value.bool x.chk, .bool x.sh, x.v, bv x.x].toArray 31 (0, 0)) * H)))) → ∀ kk : List Value → World → Prop, (∀ v2 w, (∃ qs2 : List (Int × Value), qs2.map (·.1) = ((x.ns.take (i + 1)).mapIdx fun j n => (n, x.row j)).map (·.1) ∧
            sat E w (osl 65 2 v2 (i + 1) (wcells qs2) * (rows (qs2.map (·.2)) (bcells (((x.ns.take (i + 1)).mapIdx fun j n => (n, x.row j)).map (·.2))) * (pts q (.cells [Value.bool x.chk, .bool x.sh, x.v, bv x.x].toArray 31 (0, 0)) * H)))) → kk [v2, .int .i64 (IntKind.i64.wrap ((i : Int) + 1))] w) →
            ldv prog (Instr.loadAt 29 (.pointer (some ⟨q, 2, none⟩))) w fun t_25 w => pvv prog (Instr.indexAt 29 t_25 (.int .i64 i)) w fun t_26 w => ldv prog (Instr.loadAt 3 t_26) w fun t_27 w => pvv prog (Instr.build 65 #[(0, t_27), (1, bt)]) w fun t_28 w => efv prog (Instr.buildSlice 49 1 #[(0, t_28)]) w fun t_29 w => ef prog (oBi .append #[49, 49] 49 #[false, false] #[v, t_29]) w fun t_30 w => kk [t_30, .int .i64 (IntKind.i64.wrap ((i : Int) + 1))] w := by
          intro bt w row hrow hbt h kk hkk
          refine ld_at h ?_
          rw [hxv]
          have hw1 := hrd.win (show sat E w H from h.drop.drop.drop.drop)
          obtain ⟨b1, o1, rfl, hb1⟩ := win_cell hw1 (j := i) (by simpa using hlt)
          rw [o_index (by omega) (by omega)]
          simp only [Int.toNat_natCast, Nat.mul_one]
          refine ld_cell hb1 ?_
          rw [List.getElem_map]
          simp only [iv]
          obtain ⟨ab, cb, rfl, _, _, _⟩ := osl_shape h
          refine pvv_of (v := .agg #[.int .i64 x.ns[i], .slice ab row.length cb]) (fun _ => by kernel_rfl) ?_
          refine buildSlice_sl (e := 65) (cs := #[.int .i64 x.ns[i], .slice ab row.length cb]) h (fun w => by kernel_rfl) fun b2 w h => ?_
          have h := h.owns v
          refine append_sl h [.int .i64 x.ns[i], .slice ab row.length cb] rfl (.inr ⟨b2, 0, _, 65, (0, 0), rfl, h.drop.pts_get, fun j u hj => by simpa using hj⟩) (by simp [Value.oneCell']) (by omega) (by omega) fun v2 w h => ?_
          try simp only [↓o_nil, ↓o_field, ↓o_add, ↓o_sub, ↓o_mul, ↓o_lss, ↓o_leq, ↓o_gtr, ↓o_geq, ↓o_not, ↓o_pick, ↓o_eqInt, ↓o_neInt, ↓o_eqBool, ↓o_neBool, ↓o_eqPtr, ↓o_nePtr, ↓o_eqPtr', ↓o_eqSl, ↓o_neSl, ↓o_eqStr, ↓o_neStr, ↓o_len, ↓o_lenS, ↓o_min, ↓o_max, ↓o_extract, ↓o_convInt, ↓cd_true, ↓cd_false, ↓gate_tt, ↓gate_ff, ↓gate_tf, ↓gate_ft, ↓gate_undef, ↓o_bind, ↓stay_v, ↓pop_cons, ↓fin_nil, Option.isNone_none, Option.isNone_some, Bool.not_true, Bool.not_false, Nat.zero_add, decide_true, decide_false, if_true, if_false, Bool.false_eq_true, ↓reduceIte]
          refine hkk v2 w ⟨qs ++ [(x.ns[i], .slice ab row.length cb)], ?_, ?_⟩
          · rw [x.pgs_snoc hlt (by omega), List.map_append, List.map_append, hq]; rfl
          · rw [x.pgs_snoc hlt (by omega), List.map_append, List.map_append, List.map_cons, List.map_nil, List.map_cons, List.map_nil, show ∀ (L : List Bs) (l : Bs), bcells (L ++ [l]) = bcells L ++ [l.map bv] from bcells_snoc, wcells_snoc]
            have hl1 : (qs.map (·.2)).length = (bcells (((x.ns.take i).mapIdx fun j n => (n, x.row j)).map (·.2))).length := by
              have := congrArg List.length hq
              simp only [List.length_map] at this
              rw [bcells_length, List.length_map, List.length_map, this]
            rw [rows_snoc _ _ _ _ hl1]
            have h := h.perm (show _ = pts b2 (.cells #[.int .i64 x.ns[i], .slice ab row.length cb] 65 (0, 0)) * (osl 65 2 v2 (i + 1) (wcells qs ++ [.int .i64 x.ns[i], .slice ab row.length cb]) * ((rows (qs.map (·.2)) (bcells (((x.ns.take i).mapIdx fun j n => (n, x.row j)).map (·.2))) * osl 5 1 (.slice ab row.length cb) row.length (row.map bv)) * (pts q (.cells [Value.bool x.chk, .bool x.sh, x.v, bv x.x].toArray 31 (0, 0)) * H))) by ac_rfl)
            rw [← hrow, List.length_map]
            exact h.drop
        refine jn_cut (fun σ w => ∃ bt row, σ = [bt] ∧ row = x.row i ∧ bt.oneCell' = true ∧ sat E w (osl 5 1 bt row.length (row.map bv) * (osl 65 2 v i (wcells qs) * (rows (qs.map (·.2)) (bcells (((x.ns.take i).mapIdx fun j n => (n, x.row j)).map (·.2))) * (pts q (.cells [Value.bool x.chk, .bool x.sh, x.v, bv x.x].toArray 31 (0, 0)) * H))))) ?_ ?_
        · intro kk hk
          refine ld_at h ?_
          have hfull : ∀ w, sat E w (pts bb (.cells (List.replicate 256 (bv (x.x + UInt8.ofNat i))).toArray 5 (0, 0)) * (osl 65 2 v i (wcells qs) * (rows (qs.map (·.2)) (bcells (((x.ns.take i).mapIdx fun j n => (n, x.row j)).map (·.2))) * (pts q (.cells [Value.bool x.chk, .bool x.sh, x.v, bv x.x].toArray 31 (0, 0)) * H)))) → ¬ (x.sh = true ∧ i = 0) → kk [.slice (some ⟨bb, 0, none⟩) 256 256] w := fun w h hn => by
            refine hk _ w ⟨_, x.row i, rfl, rfl, rfl, ?_⟩
            unfold Dd.row
            rw [if_neg hn, List.length_replicate, List.map_replicate]
            exact osl_of (n := 256) (sz := 1) h (by simp) (by omega)
          cases hsh : x.sh with
          | false =>
            try simp only [↓o_nil, ↓o_field, ↓o_add, ↓o_sub, ↓o_mul, ↓o_lss, ↓o_leq, ↓o_gtr, ↓o_geq, ↓o_not, ↓o_pick, ↓o_eqInt, ↓o_neInt, ↓o_eqBool, ↓o_neBool, ↓o_eqPtr, ↓o_nePtr, ↓o_eqPtr', ↓o_eqSl, ↓o_neSl, ↓o_eqStr, ↓o_neStr, ↓o_len, ↓o_lenS, ↓o_min, ↓o_max, ↓o_extract, ↓o_convInt, ↓cd_true, ↓cd_false, ↓gate_tt, ↓gate_ff, ↓gate_tf, ↓gate_ft, ↓gate_undef, ↓o_bind, ↓stay_v, ↓pop_cons, ↓fin_nil, Option.isNone_none, Option.isNone_some, Bool.not_true, Bool.not_false, Nat.zero_add, decide_true, decide_false, if_true, if_false, Bool.false_eq_true, ↓reduceIte]
            exact hfull w h (by rw [hsh]; simp)
          | true =>
            try simp only [↓o_nil, ↓o_field, ↓o_add, ↓o_sub, ↓o_mul, ↓o_lss, ↓o_leq, ↓o_gtr, ↓o_geq, ↓o_not, ↓o_pick, ↓o_eqInt, ↓o_neInt, ↓o_eqBool, ↓o_neBool, ↓o_eqPtr, ↓o_nePtr, ↓o_eqPtr', ↓o_eqSl, ↓o_neSl, ↓o_eqStr, ↓o_neStr, ↓o_len, ↓o_lenS, ↓o_min, ↓o_max, ↓o_extract, ↓o_convInt, ↓cd_true, ↓cd_false, ↓gate_tt, ↓gate_ff, ↓gate_tf, ↓gate_ft, ↓gate_undef, ↓o_bind, ↓stay_v, ↓pop_cons, ↓fin_nil, Option.isNone_none, Option.isNone_some, Bool.not_true, Bool.not_false, Nat.zero_add, decide_true, decide_false, if_true, if_false, Bool.false_eq_true, ↓reduceIte]
            by_cases hi0 : i = 0
            · have hi0' : (i : Int) = 0 := by omega
              simp only [hi0', ↓o_nil, ↓o_field, ↓o_add, ↓o_sub, ↓o_mul, ↓o_lss, ↓o_leq, ↓o_gtr, ↓o_geq, ↓o_not, ↓o_pick, ↓o_eqInt, ↓o_neInt, ↓o_eqBool, ↓o_neBool, ↓o_eqPtr, ↓o_nePtr, ↓o_eqPtr', ↓o_eqSl, ↓o_neSl, ↓o_eqStr, ↓o_neStr, ↓o_len, ↓o_lenS, ↓o_min, ↓o_max, ↓o_extract, ↓o_convInt, ↓cd_true, ↓cd_false, ↓gate_tt, ↓gate_ff, ↓gate_tf, ↓gate_ft, ↓gate_undef, ↓o_bind, ↓stay_v, ↓pop_cons, ↓fin_nil, Option.isNone_none, Option.isNone_some, Bool.not_true, Bool.not_false, Nat.zero_add, decide_true, decide_false, if_true, if_false, Bool.false_eq_true, ↓reduceIte]
              rw [o_slice_h (by omega) (by omega)]
              refine hk _ w ⟨_, x.row i, rfl, rfl, rfl, ?_⟩
              unfold Dd.row
              rw [if_pos ⟨hsh, hi0⟩, List.length_replicate, List.map_replicate]
              refine sat_osl.2 (.inr ⟨bb, 256, [bv (x.x + UInt8.ofNat i)], rfl, by simp, by simp, by decide, by decide, ?_⟩)
              rw [show List.replicate 255 (bv (x.x + UInt8.ofNat i)) ++ [bv (x.x + UInt8.ofNat i)] = List.replicate 256 (bv (x.x + UInt8.ofNat i)) from by rw [← List.replicate_succ']]
              exact h
            · have hi0' : ¬ (i : Int) = 0 := by omega
              simp only [hi0', ↓o_nil, ↓o_field, ↓o_add, ↓o_sub, ↓o_mul, ↓o_lss, ↓o_leq, ↓o_gtr, ↓o_geq, ↓o_not, ↓o_pick, ↓o_eqInt, ↓o_neInt, ↓o_eqBool, ↓o_neBool, ↓o_eqPtr, ↓o_nePtr, ↓o_eqPtr', ↓o_eqSl, ↓o_neSl, ↓o_eqStr, ↓o_neStr, ↓o_len, ↓o_lenS, ↓o_min, ↓o_max, ↓o_extract, ↓o_convInt, ↓cd_true, ↓cd_false, ↓gate_tt, ↓gate_ff, ↓gate_tf, ↓gate_ft, ↓gate_undef, ↓o_bind, ↓stay_v, ↓pop_cons, ↓fin_nil, Option.isNone_none, Option.isNone_some, Bool.not_true, Bool.not_false, Nat.zero_add, decide_true, decide_false, if_true, if_false, Bool.false_eq_true, ↓reduceIte]
              exact hfull w h (fun e => hi0 e.2)
        · rintro σ w ⟨bt, row, rfl, hrow, hbt, h⟩
          try rw [pop_cons, fin_nil, o_field]
          refine hout bt w row hrow hbt h again fun v2 w hh => ?_
          obtain ⟨qs2, hq2, h2'⟩ := hh
          rw [i64_of (by omega) (by omega)]
          exact hag (102 - (i + 1)) _ _ (by omega) ⟨i + 1, v2, qs2, rfl, rfl, by omega, by omega, hq2, h2'⟩
    · simp only [h1, h2, ↓o_nil, ↓o_field, ↓o_add, ↓o_sub, ↓o_mul, ↓o_lss, ↓o_leq, ↓o_gtr, ↓o_geq, ↓o_not, ↓o_pick, ↓o_eqInt, ↓o_neInt, ↓o_eqBool, ↓o_neBool, ↓o_eqPtr, ↓o_nePtr, ↓o_eqPtr', ↓o_eqSl, ↓o_neSl, ↓o_eqStr, ↓o_neStr, ↓o_len, ↓o_lenS, ↓o_min, ↓o_max, ↓o_extract, ↓o_convInt, ↓cd_true, ↓cd_false, ↓gate_tt, ↓gate_ff, ↓gate_tf, ↓gate_ft, ↓gate_undef, ↓o_bind, ↓stay_v, ↓pop_cons, ↓fin_nil, Option.isNone_none, Option.isNone_some, Bool.not_true, Bool.not_false, Nat.zero_add, decide_true, decide_false, if_true, if_false, Bool.false_eq_true, ↓reduceIte]
      exact hstop (.inr (by omega))
  · simp only [h1, ↓o_nil, ↓o_field, ↓o_add, ↓o_sub, ↓o_mul, ↓o_lss, ↓o_leq, ↓o_gtr, ↓o_geq, ↓o_not, ↓o_pick, ↓o_eqInt, ↓o_neInt, ↓o_eqBool, ↓o_neBool, ↓o_eqPtr, ↓o_nePtr, ↓o_eqPtr', ↓o_eqSl, ↓o_neSl, ↓o_eqStr, ↓o_neStr, ↓o_len, ↓o_lenS, ↓o_min, ↓o_max, ↓o_extract, ↓o_convInt, ↓cd_true, ↓cd_false, ↓gate_tt, ↓gate_ff, ↓gate_tf, ↓gate_ft, ↓gate_undef, ↓o_bind, ↓stay_v, ↓pop_cons, ↓fin_nil, Option.isNone_none, Option.isNone_some, Bool.not_true, Bool.not_false, Nat.zero_add, decide_true, decide_false, if_true, if_false, Bool.false_eq_true, ↓reduceIte]
    exact hstop (.inl (by omega))
end Go.Proofs.YtgkeplodfkmnlaaGreat

/-
  Logs over new disks, of both sides; what must be whatever is asked.
-/
set_option linter.all false
set_option maxRecDepth 100000
namespace Go.Proofs.YtgkeplodfkmnlaaGreat
open Go Hold
variable {E : World0} {w : World} {H R X : HP} {K : Value → World → Prop}
/-- The reference's disk is read: some bytes. -/
theorem rRead_weak {d : Nat} {F : List Bs} {V : List (Int × Bs)} (h : sat E w H) [s : RdkS H d F V R] (wf : Wf F V) (hV : V.length ≤ 1000000) {n : Nat} (hn : n < F.length)
    (k : ∀ v l w', l.length = 256 → (V = [] → l = F[n]) → sat E w' (osl 5 1 v 256 (l.map bv) * (rdsk d F V * R)) → K (.tuple #[v, .int .i64 0]) w') : Calls prog 89 #[.pointer (some ⟨d, 0, none⟩), .int .i64 n] w (Ret K) := by
  obtain ⟨lv, vs, wv, ws, e, hd⟩ := sat_rdsk.1 (h.rdks d)
  have hF := wf.le
  have hws : ws.length = V.length := by have := congrArg List.length e; simpa using this
  obtain ⟨a, c, rfl, hc, hl, ha⟩ := osl_shape hd.drop
  obtain ⟨aw, cw, rfl, hcw, hlw, haw⟩ := osl_shape hd.drop.drop
  have hwl := wcells_length ws
  have hvl : vs.length = F.length := by omega
  refine c89 ?_
  unfold B89
  have h1 : ¬ (n : Int) < 0 := by omega
  have h2 : ¬ (F.length : Int) ≤ (n : Int) := by omega
  simp only [h1, ↓o_nil, ↓o_field, ↓o_add, ↓o_sub, ↓o_mul, ↓o_lss, ↓o_leq, ↓o_gtr, ↓o_geq, ↓o_not, ↓o_pick, ↓o_eqInt, ↓o_neInt, ↓o_eqBool, ↓o_neBool, ↓o_eqPtr, ↓o_nePtr, ↓o_eqPtr', ↓o_eqSl, ↓o_neSl, ↓o_eqStr, ↓o_neStr, ↓o_len, ↓o_lenS, ↓o_min, ↓o_max, ↓o_extract, ↓o_convInt, ↓cd_true, ↓cd_false, ↓gate_tt, ↓gate_ff, ↓gate_tf, ↓gate_ft, ↓gate_undef, ↓o_bind, ↓stay_v, ↓pop_cons, ↓fin_nil, Option.isNone_none, Option.isNone_some, Bool.not_true, Bool.not_false, Nat.zero_add, decide_true, decide_false, if_true, if_false, Bool.false_eq_true, ↓reduceIte]
  refine ld_at hd ?_
  simp only [h2, ↓o_nil, ↓o_field, ↓o_add, ↓o_sub, ↓o_mul, ↓o_lss, ↓o_leq, ↓o_gtr, ↓o_geq, ↓o_not, ↓o_pick, ↓o_eqInt, ↓o_neInt, ↓o_eqBool, ↓o_neBool, ↓o_eqPtr, ↓o_nePtr, ↓o_eqPtr', ↓o_eqSl, ↓o_neSl, ↓o_eqStr, ↓o_neStr, ↓o_len, ↓o_lenS, ↓o_min, ↓o_max, ↓o_extract, ↓o_convInt, ↓cd_true, ↓cd_false, ↓gate_tt, ↓gate_ff, ↓gate_tf, ↓gate_ft, ↓gate_undef, ↓o_bind, ↓stay_v, ↓pop_cons, ↓fin_nil, Option.isNone_none, Option.isNone_some, Bool.not_true, Bool.not_false, Nat.zero_add, decide_true, decide_false, if_true, if_false, Bool.false_eq_true, ↓reduceIte]
  refine ld_at hd ?_
  try simp only [↓o_nil, ↓o_field, ↓o_add, ↓o_sub, ↓o_mul, ↓o_lss, ↓o_leq, ↓o_gtr, ↓o_geq, ↓o_not, ↓o_pick, ↓o_eqInt, ↓o_neInt, ↓o_eqBool, ↓o_neBool, ↓o_eqPtr, ↓o_nePtr, ↓o_eqPtr', ↓o_eqSl, ↓o_neSl, ↓o_eqStr, ↓o_neStr, ↓o_len, ↓o_lenS, ↓o_min, ↓o_max, ↓o_extract, ↓o_convInt, ↓cd_true, ↓cd_false, ↓gate_tt, ↓gate_ff, ↓gate_tf, ↓gate_ft, ↓gate_undef, ↓o_bind, ↓stay_v, ↓pop_cons, ↓fin_nil, Option.isNone_none, Option.isNone_some, Bool.not_true, Bool.not_false, Nat.zero_add, decide_true, decide_false, if_true, if_false, Bool.false_eq_true, ↓reduceIte]
  rw [i64_of (by omega) (by omega)]
  refine lp_nat (fun q σ w => σ = [.int .i64 ((q : Int) - 1)] ∧ q ≤ V.length ∧ (V = [] → q = 0) ∧ sat E w (pts d (.cells [Value.slice a F.length c, .slice aw V.length cw].toArray 105 (0, 0)) * (osl 60 1 (.slice a F.length c) F.length vs * (osl 132 2 (.slice aw V.length cw) V.length (wcells ws) * (pers (immAll vs F) * (pers (immAll (ws.map (·.2)) (V.map (·.2))) * R)))))) V.length ⟨rfl, Nat.le_refl _, fun e => by rw [e]; rfl, hd⟩ ?_
  clear h hd
  rintro q σ w again ⟨rfl, hq, hq0, hd⟩ hag
  try simp only [↓o_nil, ↓o_field, ↓o_add, ↓o_sub, ↓o_mul, ↓o_lss, ↓o_leq, ↓o_gtr, ↓o_geq, ↓o_not, ↓o_pick, ↓o_eqInt, ↓o_neInt, ↓o_eqBool, ↓o_neBool, ↓o_eqPtr, ↓o_nePtr, ↓o_eqPtr', ↓o_eqSl, ↓o_neSl, ↓o_eqStr, ↓o_neStr, ↓o_len, ↓o_lenS, ↓o_min, ↓o_max, ↓o_extract, ↓o_convInt, ↓cd_true, ↓cd_false, ↓gate_tt, ↓gate_ff, ↓gate_tf, ↓gate_ft, ↓gate_undef, ↓o_bind, ↓stay_v, ↓pop_cons, ↓fin_nil, Option.isNone_none, Option.isNone_some, Bool.not_true, Bool.not_false, Nat.zero_add, decide_true, decide_false, if_true, if_false, Bool.false_eq_true, ↓reduceIte]
  have hshut : ∀ {v : Value} {l : Bs} {w : World}, sat E w (osl 5 1 v l.length (l.map bv) * (pts d (.cells [Value.slice a F.length c, .slice aw V.length cw].toArray 105 (0, 0)) * (osl 60 1 (.slice a F.length c) F.length vs * (osl 132 2 (.slice aw V.length cw) V.length (wcells ws) * (pers (immAll vs F) * (pers (immAll (ws.map (·.2)) (V.map (·.2))) * R)))))) → sat E w (osl 5 1 v l.length (l.map bv) * (rdsk d F V * R)) := fun {v l w} h => by
    have h2 := rdsk_shut d F V rfl rfl e h
    exact h2.perm (by ac_rfl)
  refine cd_dec (fun hge => ?_) (fun hlt => ?_)
  · obtain ⟨j, rfl⟩ : ∃ j, q = j + 1 := ⟨q - 1, by omega⟩
    have hj : j < V.length := by omega
    rw [show ((j + 1 : Nat) : Int) - 1 = (j : Int) by omega]
    refine ld_at hd ?_
    have hwin := (Rds.osl).win (hd.drop.drop).drop'
    obtain ⟨b1, o1, rfl, _⟩ := win_cell hwin (j := j * 2) (by omega)
    rw [o_index (by omega) (by omega)]
    simp only [Int.toNat_natCast, ↓o_nil, ↓o_field, ↓o_add, ↓o_sub, ↓o_mul, ↓o_lss, ↓o_leq, ↓o_gtr, ↓o_geq, ↓o_not, ↓o_pick, ↓o_eqInt, ↓o_neInt, ↓o_eqBool, ↓o_neBool, ↓o_eqPtr, ↓o_nePtr, ↓o_eqPtr', ↓o_eqSl, ↓o_neSl, ↓o_eqStr, ↓o_neStr, ↓o_len, ↓o_lenS, ↓o_min, ↓o_max, ↓o_extract, ↓o_convInt, ↓cd_true, ↓cd_false, ↓gate_tt, ↓gate_ff, ↓gate_tf, ↓gate_ft, ↓gate_undef, ↓o_bind, ↓stay_v, ↓pop_cons, ↓fin_nil, Option.isNone_none, Option.isNone_some, Bool.not_true, Bool.not_false, Nat.zero_add, decide_true, decide_false, if_true, if_false, Bool.false_eq_true, ↓reduceIte]
    obtain ⟨g1, g2⟩ := wcells_get ws j (by omega)
    have c1 := hwin.cell b1 o1 rfl _ _ g1
    have c2 := hwin.cell b1 o1 rfl _ _ g2
    refine ld_cell c1 ?_
    try simp only [↓o_nil, ↓o_field, ↓o_add, ↓o_sub, ↓o_mul, ↓o_lss, ↓o_leq, ↓o_gtr, ↓o_geq, ↓o_not, ↓o_pick, ↓o_eqInt, ↓o_neInt, ↓o_eqBool, ↓o_neBool, ↓o_eqPtr, ↓o_nePtr, ↓o_eqPtr', ↓o_eqSl, ↓o_neSl, ↓o_eqStr, ↓o_neStr, ↓o_len, ↓o_lenS, ↓o_min, ↓o_max, ↓o_extract, ↓o_convInt, ↓cd_true, ↓cd_false, ↓gate_tt, ↓gate_ff, ↓gate_tf, ↓gate_ft, ↓gate_undef, ↓o_bind, ↓stay_v, ↓pop_cons, ↓fin_nil, Option.isNone_none, Option.isNone_some, Bool.not_true, Bool.not_false, Nat.zero_add, decide_true, decide_false, if_true, if_false, Bool.false_eq_true, ↓reduceIte]
    by_cases he : ws[j].1 = (n : Int)
    · simp only [he, ↓o_nil, ↓o_field, ↓o_add, ↓o_sub, ↓o_mul, ↓o_lss, ↓o_leq, ↓o_gtr, ↓o_geq, ↓o_not, ↓o_pick, ↓o_eqInt, ↓o_neInt, ↓o_eqBool, ↓o_neBool, ↓o_eqPtr, ↓o_nePtr, ↓o_eqPtr', ↓o_eqSl, ↓o_neSl, ↓o_eqStr, ↓o_neStr, ↓o_len, ↓o_lenS, ↓o_min, ↓o_max, ↓o_extract, ↓o_convInt, ↓cd_true, ↓cd_false, ↓gate_tt, ↓gate_ff, ↓gate_tf, ↓gate_ft, ↓gate_undef, ↓o_bind, ↓stay_v, ↓pop_cons, ↓fin_nil, Option.isNone_none, Option.isNone_some, Bool.not_true, Bool.not_false, Nat.zero_add, decide_true, decide_false, if_true, if_false, Bool.false_eq_true, ↓reduceIte]
      refine ld_at hd ?_
      rw [o_index (by omega) (by omega)]
      simp only [Int.toNat_natCast, ↓o_nil, ↓o_field, ↓o_add, ↓o_sub, ↓o_mul, ↓o_lss, ↓o_leq, ↓o_gtr, ↓o_geq, ↓o_not, ↓o_pick, ↓o_eqInt, ↓o_neInt, ↓o_eqBool, ↓o_neBool, ↓o_eqPtr, ↓o_nePtr, ↓o_eqPtr', ↓o_eqSl, ↓o_neSl, ↓o_eqStr, ↓o_neStr, ↓o_len, ↓o_lenS, ↓o_min, ↓o_max, ↓o_extract, ↓o_convInt, ↓cd_true, ↓cd_false, ↓gate_tt, ↓gate_ff, ↓gate_tf, ↓gate_ft, ↓gate_undef, ↓o_bind, ↓stay_v, ↓pop_cons, ↓fin_nil, Option.isNone_none, Option.isNone_some, Bool.not_true, Bool.not_false, Nat.zero_add, decide_true, decide_false, if_true, if_false, Bool.false_eq_true, ↓reduceIte]
      refine ld_cell c2 ?_
      have him := hd.drop.drop.drop.drop.pers_get.2 j ws[j].2 V[j].2 (by rw [List.getElem?_map, List.getElem?_eq_getElem (by omega)]; rfl) (by rw [List.getElem?_map, List.getElem?_eq_getElem hj]; rfl)
      have h256 : V[j].2.length = 256 := (wf.w _ (List.getElem_mem hj)).2.2
      refine Copy_spec hd (v := ws[j].2) (l := V[j].2) ?_ (by omega) fun v w h => ?_
      · exact (immAll_rds (L := V.map (·.2)) (vs := ws.map (·.2)) (i := j) (by rw [List.getElem?_map, List.getElem?_eq_getElem (by omega)]; rfl) (by rw [List.getElem?_map, List.getElem?_eq_getElem hj]; rfl)).left.right.right.right.right
      have h := hshut h
      rw [h256] at h
      exact k v V[j].2 w h256 (fun e => by rw [e] at hj; simp at hj) h
    · simp only [he, ↓o_nil, ↓o_field, ↓o_add, ↓o_sub, ↓o_mul, ↓o_lss, ↓o_leq, ↓o_gtr, ↓o_geq, ↓o_not, ↓o_pick, ↓o_eqInt, ↓o_neInt, ↓o_eqBool, ↓o_neBool, ↓o_eqPtr, ↓o_nePtr, ↓o_eqPtr', ↓o_eqSl, ↓o_neSl, ↓o_eqStr, ↓o_neStr, ↓o_len, ↓o_lenS, ↓o_min, ↓o_max, ↓o_extract, ↓o_convInt, ↓cd_true, ↓cd_false, ↓gate_tt, ↓gate_ff, ↓gate_tf, ↓gate_ft, ↓gate_undef, ↓o_bind, ↓stay_v, ↓pop_cons, ↓fin_nil, Option.isNone_none, Option.isNone_some, Bool.not_true, Bool.not_false, Nat.zero_add, decide_true, decide_false, if_true, if_false, Bool.false_eq_true, ↓reduceIte]
      rw [i64_of (by omega) (by omega)]
      exact hag j _ _ (by omega) ⟨rfl, by omega, fun e => by rw [e] at hj; simp at hj, hd⟩
  · refine ld_at hd ?_
    obtain ⟨b1, o1, rfl, hb1⟩ := win_cell ((Rds.osl).win hd.drop.drop') (j := n) (by omega)
    rw [o_index (by omega) (by omega)]
    simp only [Int.toNat_natCast, Nat.mul_one]
    refine ld_cell hb1 ?_
    have h256 : F[n].length = 256 := wf.l _ (List.getElem_mem hn)
    refine Copy_spec hd (v := vs[n]) (l := F[n]) ?_ (by omega) fun v w h => ?_
    · exact (immAll_rds (List.getElem?_eq_getElem (by omega)) (List.getElem?_eq_getElem hn)).left.right.right.right
    have h := hshut h
    rw [h256] at h
    exact k v F[n] w h256 (fun _ => rfl) h
theorem rzeros_spec (h : sat E w H) {v : Value} {l : Bs} (hv : Rds H v l.length (l.map bv)) (hl : l.length ≤ 100000) {o : Nat} (ho : o ≤ l.length) (k : ∀ w' r, ((l.drop o).all fun x => decide (x = 0)) = r → sat E w' H → K (.bool r) w') : Calls prog 62 #[v, .int .i64 o] w (Ret K) := by
  obtain ⟨a, c, rfl, hc, hv, ha⟩ := hv.shape h
  refine c62 ?_
  unfold B62
  refine lp_nat (fun q σ w => ∃ i : Nat, σ = [.int .i64 i] ∧ q = l.length - i ∧ o ≤ i ∧ i ≤ l.length ∧ ((l.drop o).all fun x => decide (x = 0)) = ((l.drop i).all fun x => decide (x = 0)) ∧ sat E w H) (l.length - o) ⟨o, rfl, rfl, by omega, ho, rfl, h⟩ ?_
  rintro q σ w again ⟨i, rfl, rfl, hoi, hi, hz, h⟩ hag
  try simp only [↓o_nil, ↓o_field, ↓o_add, ↓o_sub, ↓o_mul, ↓o_lss, ↓o_leq, ↓o_gtr, ↓o_geq, ↓o_not, ↓o_pick, ↓o_eqInt, ↓o_neInt, ↓o_eqBool, ↓o_neBool, ↓o_eqPtr, ↓o_nePtr, ↓o_eqPtr', ↓o_eqSl, ↓o_neSl, ↓o_eqStr, ↓o_neStr, ↓o_len, ↓o_lenS, ↓o_min, ↓o_max, ↓o_extract, ↓o_convInt, ↓cd_true, ↓cd_false, ↓gate_tt, ↓gate_ff, ↓gate_tf, ↓gate_ft, ↓gate_undef, ↓o_bind, ↓stay_v, ↓pop_cons, ↓fin_nil, Option.isNone_none, Option.isNone_some, Bool.not_true, Bool.not_false, Nat.zero_add, decide_true, decide_false, if_true, if_false, Bool.false_eq_true, ↓reduceIte]
  refine cd_dec (fun hlt => ?_) (fun hge => ?_)
  · have hlt : i < l.length := by omega
    obtain ⟨b1, o1, rfl, hb1⟩ := win_cell (hv.win h) (j := i) (by simpa using hlt)
    rw [o_index (by omega) (by omega)]
    simp only [Int.toNat_natCast, Nat.mul_one]
    refine ld_cell hb1 ?_
    rw [List.getElem_map]
    simp only [bv, ↓o_nil, ↓o_field, ↓o_add, ↓o_sub, ↓o_mul, ↓o_lss, ↓o_leq, ↓o_gtr, ↓o_geq, ↓o_not, ↓o_pick, ↓o_eqInt, ↓o_neInt, ↓o_eqBool, ↓o_neBool, ↓o_eqPtr, ↓o_nePtr, ↓o_eqPtr', ↓o_eqSl, ↓o_neSl, ↓o_eqStr, ↓o_neStr, ↓o_len, ↓o_lenS, ↓o_min, ↓o_max, ↓o_extract, ↓o_convInt, ↓cd_true, ↓cd_false, ↓gate_tt, ↓gate_ff, ↓gate_tf, ↓gate_ft, ↓gate_undef, ↓o_bind, ↓stay_v, ↓pop_cons, ↓fin_nil, Option.isNone_none, Option.isNone_some, Bool.not_true, Bool.not_false, Nat.zero_add, decide_true, decide_false, if_true, if_false, Bool.false_eq_true, ↓reduceIte]
    have hd : (l.drop i) = l[i] :: l.drop (i + 1) := List.drop_eq_getElem_cons hlt
    by_cases hx : l[i] = 0
    · have hx' : ((l[i].toNat : Nat) : Int) = 0 := by rw [hx]; rfl
      simp only [hx', ↓o_nil, ↓o_field, ↓o_add, ↓o_sub, ↓o_mul, ↓o_lss, ↓o_leq, ↓o_gtr, ↓o_geq, ↓o_not, ↓o_pick, ↓o_eqInt, ↓o_neInt, ↓o_eqBool, ↓o_neBool, ↓o_eqPtr, ↓o_nePtr, ↓o_eqPtr', ↓o_eqSl, ↓o_neSl, ↓o_eqStr, ↓o_neStr, ↓o_len, ↓o_lenS, ↓o_min, ↓o_max, ↓o_extract, ↓o_convInt, ↓cd_true, ↓cd_false, ↓gate_tt, ↓gate_ff, ↓gate_tf, ↓gate_ft, ↓gate_undef, ↓o_bind, ↓stay_v, ↓pop_cons, ↓fin_nil, Option.isNone_none, Option.isNone_some, Bool.not_true, Bool.not_false, Nat.zero_add, decide_true, decide_false, if_true, if_false, Bool.false_eq_true, ↓reduceIte]
      rw [i64_of (by omega) (by omega)]
      refine hag (l.length - (i + 1)) _ _ (by omega) ⟨i + 1, rfl, rfl, by omega, by omega, ?_, h⟩
      rw [hz, hd, List.all_cons, hx]; simp
    · have hx' : ¬ ((l[i].toNat : Nat) : Int) = 0 := fun e => hx (UInt8.toNat_inj.1 (by simpa using e))
      simp only [hx', ↓o_nil, ↓o_field, ↓o_add, ↓o_sub, ↓o_mul, ↓o_lss, ↓o_leq, ↓o_gtr, ↓o_geq, ↓o_not, ↓o_pick, ↓o_eqInt, ↓o_neInt, ↓o_eqBool, ↓o_neBool, ↓o_eqPtr, ↓o_nePtr, ↓o_eqPtr', ↓o_eqSl, ↓o_neSl, ↓o_eqStr, ↓o_neStr, ↓o_len, ↓o_lenS, ↓o_min, ↓o_max, ↓o_extract, ↓o_convInt, ↓cd_true, ↓cd_false, ↓gate_tt, ↓gate_ff, ↓gate_tf, ↓gate_ft, ↓gate_undef, ↓o_bind, ↓stay_v, ↓pop_cons, ↓fin_nil, Option.isNone_none, Option.isNone_some, Bool.not_true, Bool.not_false, Nat.zero_add, decide_true, decide_false, if_true, if_false, Bool.false_eq_true, ↓reduceIte]
      refine k w false ?_ h
      rw [hz, hd, List.all_cons]; simp [hx]
  · refine k w true ?_ h
    rw [hz, List.drop_of_length_le (by omega)]; rfl
def rcells (r size head full : Nat) : List Value := [.pointer (some ⟨r, 0, none⟩), .int .i64 size, .int .i64 head, .int .i64 full]
abbrev rlI (m r : Nat) (F : List Bs) (V : List (Int × Bs)) (size head full : Nat) (R : HP) : HP := pts m (.cells (rcells r size head full).toArray 108 (0, 0)) * (rdsk r F V * R)
theorem rl_in {m r size head full : Nat} {F : List Bs} {V : List (Int × Bs)} (h : sat E w (X * rlI m r F V size head full R)) : sat E w (rlI m r F V size head full (X * R)) := by
  unfold rlI at h ⊢
  exact h.perm (by ac_rfl)
theorem rl_out {m r size head full : Nat} {F : List Bs} {V : List (Int × Bs)} (h : sat E w (rlI m r F V size head full (X * R))) : sat E w (X * rlI m r F V size head full R) := by
  unfold rlI at h ⊢
  exact h.perm (by ac_rfl)
theorem rBlock_spec {m r size head full : Nat} {F : List Bs} {V : List (Int × Bs)} (h : sat E w (rlI m r F V size head full R)) (wf : Wf F V) (hV : V.length ≤ 1000000) {n : Nat} (hn : n < F.length)
    (k : ∀ v l w', l.length = 256 → (V = [] → l = F[n]) → sat E w' (osl 5 1 v 256 (l.map bv) * rlI m r F V size head full R) → K v w') : Calls prog 61 #[.pointer (some ⟨m, 0, none⟩), .int .i64 n] w (Ret K) := by
  unfold rlI rcells at h
  refine c61 ?_
  unfold B61
  try simp only [↓o_nil, ↓o_field, ↓o_add, ↓o_sub, ↓o_mul, ↓o_lss, ↓o_leq, ↓o_gtr, ↓o_geq, ↓o_not, ↓o_pick, ↓o_eqInt, ↓o_neInt, ↓o_eqBool, ↓o_neBool, ↓o_eqPtr, ↓o_nePtr, ↓o_eqPtr', ↓o_eqSl, ↓o_neSl, ↓o_eqStr, ↓o_neStr, ↓o_len, ↓o_lenS, ↓o_min, ↓o_max, ↓o_extract, ↓o_convInt, ↓cd_true, ↓cd_false, ↓gate_tt, ↓gate_ff, ↓gate_tf, ↓gate_ft, ↓gate_undef, ↓o_bind, ↓stay_v, ↓pop_cons, ↓fin_nil, Option.isNone_none, Option.isNone_some, Bool.not_true, Bool.not_false, Nat.zero_add, decide_true, decide_false, if_true, if_false, Bool.false_eq_true, ↓reduceIte]
  refine ld_at h ?_
  refine rRead_weak h wf hV hn fun v l w hl he h => ?_
  try simp only [↓o_nil, ↓o_field, ↓o_add, ↓o_sub, ↓o_mul, ↓o_lss, ↓o_leq, ↓o_gtr, ↓o_geq, ↓o_not, ↓o_pick, ↓o_eqInt, ↓o_neInt, ↓o_eqBool, ↓o_neBool, ↓o_eqPtr, ↓o_nePtr, ↓o_eqPtr', ↓o_eqSl, ↓o_neSl, ↓o_eqStr, ↓o_neStr, ↓o_len, ↓o_lenS, ↓o_min, ↓o_max, ↓o_extract, ↓o_convInt, ↓cd_true, ↓cd_false, ↓gate_tt, ↓gate_ff, ↓gate_tf, ↓gate_ft, ↓gate_undef, ↓o_bind, ↓stay_v, ↓pop_cons, ↓fin_nil, Option.isNone_none, Option.isNone_some, Bool.not_true, Bool.not_false, Nat.zero_add, decide_true, decide_false, if_true, if_false, Bool.false_eq_true, ↓reduceIte]
  refine k v l w hl he ?_
  unfold rlI rcells
  exact h.perm (by ac_rfl)
theorem Z_wf {n : Nat} (h1 : 1 ≤ n) (h2 : n ≤ 1024) : Wf (List.replicate n zeros) [] := ⟨by simpa using h1, by simpa using h2, fun l hl => by rw [List.eq_of_mem_replicate hl]; simp [zeros], fun p hp => by cases hp⟩
theorem rOpen_spec {n size r : Nat} (h : sat E w (rdsk r (List.replicate n zeros) [] * R)) (h1 : 2 ≤ size) (h2 : size + 2 ≤ n) (h3 : n ≤ 1024)
    (k : ∀ m r' w', sat E w' (rlI m r' (List.replicate n zeros) [] size 0 0 R) → K (.tuple #[.pointer (some ⟨m, 0, none⟩), .int .i64 0]) w') : Calls prog 28 #[.pointer (some ⟨r, 0, none⟩), .int .i64 size] w (Ret K) := by
  have wf := Z_wf (n := n) (by omega) h3
  refine c28 ?_
  unfold B28
  have e1 : ¬ (size : Int) < 2 := by omega
  simp only [e1, ↓o_nil, ↓o_field, ↓o_add, ↓o_sub, ↓o_mul, ↓o_lss, ↓o_leq, ↓o_gtr, ↓o_geq, ↓o_not, ↓o_pick, ↓o_eqInt, ↓o_neInt, ↓o_eqBool, ↓o_neBool, ↓o_eqPtr, ↓o_nePtr, ↓o_eqPtr', ↓o_eqSl, ↓o_neSl, ↓o_eqStr, ↓o_neStr, ↓o_len, ↓o_lenS, ↓o_min, ↓o_max, ↓o_extract, ↓o_convInt, ↓cd_true, ↓cd_false, ↓gate_tt, ↓gate_ff, ↓gate_tf, ↓gate_ft, ↓gate_undef, ↓o_bind, ↓stay_v, ↓pop_cons, ↓fin_nil, Option.isNone_none, Option.isNone_some, Bool.not_true, Bool.not_false, Nat.zero_add, decide_true, decide_false, if_true, if_false, Bool.false_eq_true, ↓reduceIte]
  refine rBlocks_spec h ?_
  rw [List.length_replicate]
  try simp only [↓o_nil, ↓o_field, ↓o_add, ↓o_sub, ↓o_mul, ↓o_lss, ↓o_leq, ↓o_gtr, ↓o_geq, ↓o_not, ↓o_pick, ↓o_eqInt, ↓o_neInt, ↓o_eqBool, ↓o_neBool, ↓o_eqPtr, ↓o_nePtr, ↓o_eqPtr', ↓o_eqSl, ↓o_neSl, ↓o_eqStr, ↓o_neStr, ↓o_len, ↓o_lenS, ↓o_min, ↓o_max, ↓o_extract, ↓o_convInt, ↓cd_true, ↓cd_false, ↓gate_tt, ↓gate_ff, ↓gate_tf, ↓gate_ft, ↓gate_undef, ↓o_bind, ↓stay_v, ↓pop_cons, ↓fin_nil, Option.isNone_none, Option.isNone_some, Bool.not_true, Bool.not_false, Nat.zero_add, decide_true, decide_false, if_true, if_false, Bool.false_eq_true, ↓reduceIte]
  rw [i64_of (by omega) (by omega)]
  have e2 : ¬ (n : Int) - 2 < (size : Int) := by omega
  simp only [e2, ↓o_nil, ↓o_field, ↓o_add, ↓o_sub, ↓o_mul, ↓o_lss, ↓o_leq, ↓o_gtr, ↓o_geq, ↓o_not, ↓o_pick, ↓o_eqInt, ↓o_neInt, ↓o_eqBool, ↓o_neBool, ↓o_eqPtr, ↓o_nePtr, ↓o_eqPtr', ↓o_eqSl, ↓o_neSl, ↓o_eqStr, ↓o_neStr, ↓o_len, ↓o_lenS, ↓o_min, ↓o_max, ↓o_extract, ↓o_convInt, ↓cd_true, ↓cd_false, ↓gate_tt, ↓gate_ff, ↓gate_tf, ↓gate_ft, ↓gate_undef, ↓o_bind, ↓stay_v, ↓pop_cons, ↓fin_nil, Option.isNone_none, Option.isNone_some, Bool.not_true, Bool.not_false, Nat.zero_add, decide_true, decide_false, if_true, if_false, Bool.false_eq_true, ↓reduceIte]
  refine rImage_spec h wf (by simp) fun v vs w h => ?_
  rw [show redo (List.replicate n zeros) [] = List.replicate n zeros from rfl] at h
  refine rLoad_spec h (L := List.replicate n zeros) (rdd_of2 h vs (List.replicate n zeros)) (fun e w hb _ => ?_) (fun r' w _ h => ?_)
  · unfold bad at hb
    rw [if_neg (by simp; omega), if_pos (List.all_eq_true.2 fun l hl => by simpa using wf.l l hl)] at hb
    cases hb
  have h : sat E w (rdsk r' (List.replicate n zeros) [] * R) := by
    exact (h.perm (show _ = osl 60 1 v (List.replicate n zeros).length vs * (pers (immAll vs (List.replicate n zeros)) * (rdsk r (List.replicate n zeros) [] * (rdsk r' (List.replicate n zeros) [] * R))) by ac_rfl)).drop.drop.drop
  try simp only [↓o_nil, ↓o_field, ↓o_add, ↓o_sub, ↓o_mul, ↓o_lss, ↓o_leq, ↓o_gtr, ↓o_geq, ↓o_not, ↓o_pick, ↓o_eqInt, ↓o_neInt, ↓o_eqBool, ↓o_neBool, ↓o_eqPtr, ↓o_nePtr, ↓o_eqPtr', ↓o_eqSl, ↓o_neSl, ↓o_eqStr, ↓o_neStr, ↓o_len, ↓o_lenS, ↓o_min, ↓o_max, ↓o_extract, ↓o_convInt, ↓cd_true, ↓cd_false, ↓gate_tt, ↓gate_ff, ↓gate_tf, ↓gate_ft, ↓gate_undef, ↓o_bind, ↓stay_v, ↓pop_cons, ↓fin_nil, Option.isNone_none, Option.isNone_some, Bool.not_true, Bool.not_false, Nat.zero_add, decide_true, decide_false, if_true, if_false, Bool.false_eq_true, ↓reduceIte]
  refine pvv_of (v := .agg (rcells r' size 0 0).toArray) (fun _ => by kernel_rfl) ?_
  refine box_sl h fun m w h => ?_
  have h : sat E w (rlI m r' (List.replicate n zeros) [] size 0 0 R) := h
  refine rBlock_spec (n := 0) h wf (by simp) (by simp; omega) fun v l w hl he h => ?_
  have he := he rfl
  have hz : l = zeros := by rw [he]; simp
  subst hz
  refine rzeros_spec (o := 0) h (l := zeros) Rds.own (by simp [zeros]) (by omega) fun w r2 hr h => ?_
  rw [List.drop_zero, zeros_all] at hr
  subst hr
  try simp only [↓o_nil, ↓o_field, ↓o_add, ↓o_sub, ↓o_mul, ↓o_lss, ↓o_leq, ↓o_gtr, ↓o_geq, ↓o_not, ↓o_pick, ↓o_eqInt, ↓o_neInt, ↓o_eqBool, ↓o_neBool, ↓o_eqPtr, ↓o_nePtr, ↓o_eqPtr', ↓o_eqSl, ↓o_neSl, ↓o_eqStr, ↓o_neStr, ↓o_len, ↓o_lenS, ↓o_min, ↓o_max, ↓o_extract, ↓o_convInt, ↓cd_true, ↓cd_false, ↓gate_tt, ↓gate_ff, ↓gate_tf, ↓gate_ft, ↓gate_undef, ↓o_bind, ↓stay_v, ↓pop_cons, ↓fin_nil, Option.isNone_none, Option.isNone_some, Bool.not_true, Bool.not_false, Nat.zero_add, decide_true, decide_false, if_true, if_false, Bool.false_eq_true, ↓reduceIte]
  exact k m r' w h.drop
/-! ### New logs -/
def newL (n size : Nat) : Lg := ⟨List.replicate n zeros, [], size, 0, 0, []⟩
theorem newL_inv {n size : Nat} (h1 : 2 ≤ size) (h2 : size + 2 ≤ n) (h3 : n ≤ 1024) : LInv (newL n size) [] :=
  ⟨Z_wf (by omega) h3, h1, by simp [newL]; exact h2, rfl, Nat.zero_le _, rfl, fun g hg => absurd hg (by simp), ⟨.inl ⟨by show (List.replicate n zeros)[0]? = _; rw [List.getElem?_replicate, if_pos (by omega)], rfl, rfl⟩, fun i g hg => by simp at hg⟩⟩
theorem open_spec (h : sat E w R) {n size : Nat} (h1 : 2 ≤ size) (h2 : size + 2 ≤ n) (h3 : n ≤ 1024)
    (k : ∀ p d b m r w', sat E w' (lgI p d b (newL n size) (rlI m r (List.replicate n zeros) [] size 0 0 R)) → K (.tuple #[.pointer (some ⟨p, 0, none⟩), .pointer (some ⟨m, 0, none⟩), .bool true]) w') :
    Calls prog 7 #[.int .i64 n, .int .i64 size] w (Ret K) := by
  refine c7 ?_
  unfold B7
  refine New_spec h (by omega) (by omega) fun d0 w h => ?_
  try simp only [↓o_nil, ↓o_field, ↓o_add, ↓o_sub, ↓o_mul, ↓o_lss, ↓o_leq, ↓o_gtr, ↓o_geq, ↓o_not, ↓o_pick, ↓o_eqInt, ↓o_neInt, ↓o_eqBool, ↓o_neBool, ↓o_eqPtr, ↓o_nePtr, ↓o_eqPtr', ↓o_eqSl, ↓o_neSl, ↓o_eqStr, ↓o_neStr, ↓o_len, ↓o_lenS, ↓o_min, ↓o_max, ↓o_extract, ↓o_convInt, ↓cd_true, ↓cd_false, ↓gate_tt, ↓gate_ff, ↓gate_tf, ↓gate_ft, ↓gate_undef, ↓o_bind, ↓stay_v, ↓pop_cons, ↓fin_nil, Option.isNone_none, Option.isNone_some, Bool.not_true, Bool.not_false, Nat.zero_add, decide_true, decide_false, if_true, if_false, Bool.false_eq_true, ↓reduceIte]
  have h := h.perm (star_comm _ _)
  rw [Int.toNat_natCast] at h
  refine rNew_spec h (by omega) (by omega) fun r0 w h => ?_
  rw [Int.toNat_natCast] at h
  try simp only [↓o_nil, ↓o_field, ↓o_add, ↓o_sub, ↓o_mul, ↓o_lss, ↓o_leq, ↓o_gtr, ↓o_geq, ↓o_not, ↓o_pick, ↓o_eqInt, ↓o_neInt, ↓o_eqBool, ↓o_neBool, ↓o_eqPtr, ↓o_nePtr, ↓o_eqPtr', ↓o_eqSl, ↓o_neSl, ↓o_eqStr, ↓o_neStr, ↓o_len, ↓o_lenS, ↓o_min, ↓o_max, ↓o_extract, ↓o_convInt, ↓cd_true, ↓cd_false, ↓gate_tt, ↓gate_ff, ↓gate_tf, ↓gate_ft, ↓gate_undef, ↓o_bind, ↓stay_v, ↓pop_cons, ↓fin_nil, Option.isNone_none, Option.isNone_some, Bool.not_true, Bool.not_false, Nat.zero_add, decide_true, decide_false, if_true, if_false, Bool.false_eq_true, ↓reduceIte]
  refine Open_spec (S := newL n size) (gs := []) (newL_inv h1 h2 h3) rfl (by show (0 : Nat) < 2 ^ 62; decide) (dd := d0) (W := []) h (Z_wf (by omega) h3) fun p d b w h => ?_
  try simp only [↓o_nil, ↓o_field, ↓o_add, ↓o_sub, ↓o_mul, ↓o_lss, ↓o_leq, ↓o_gtr, ↓o_geq, ↓o_not, ↓o_pick, ↓o_eqInt, ↓o_neInt, ↓o_eqBool, ↓o_neBool, ↓o_eqPtr, ↓o_nePtr, ↓o_eqPtr', ↓o_eqSl, ↓o_neSl, ↓o_eqStr, ↓o_neStr, ↓o_len, ↓o_lenS, ↓o_min, ↓o_max, ↓o_extract, ↓o_convInt, ↓cd_true, ↓cd_false, ↓gate_tt, ↓gate_ff, ↓gate_tf, ↓gate_ft, ↓gate_undef, ↓o_bind, ↓stay_v, ↓pop_cons, ↓fin_nil, Option.isNone_none, Option.isNone_some, Bool.not_true, Bool.not_false, Nat.zero_add, decide_true, decide_false, if_true, if_false, Bool.false_eq_true, ↓reduceIte]
  unfold lgI at h
  have h : sat E w (rdsk r0 (List.replicate n zeros) [] * (pts p (.cells (lcells (newL n size) d b).toArray 70 (0, 0)) * (dsk d (newL n size).L (newL n size).W * (omap b (mpA (newL n size).a) * R)))) :=
    (h.perm (show _ = dsk d0 (List.replicate n zeros) [] * (rdsk r0 (List.replicate n zeros) [] * (pts p (.cells (lcells (newL n size) d b).toArray 70 (0, 0)) * (dsk d (newL n size).L (newL n size).W * (omap b (mpA (newL n size).a) * R)))) by ac_rfl)).drop
  refine rOpen_spec h h1 h2 h3 fun m r w h => ?_
  simp only [↓o_nil, ↓o_field, ↓o_add, ↓o_sub, ↓o_mul, ↓o_lss, ↓o_leq, ↓o_gtr, ↓o_geq, ↓o_not, ↓o_pick, ↓o_eqInt, ↓o_neInt, ↓o_eqBool, ↓o_neBool, ↓o_eqPtr, ↓o_nePtr, ↓o_eqPtr', ↓o_eqSl, ↓o_neSl, ↓o_eqStr, ↓o_neStr, ↓o_len, ↓o_lenS, ↓o_min, ↓o_max, ↓o_extract, ↓o_convInt, ↓cd_true, ↓cd_false, ↓gate_tt, ↓gate_ff, ↓gate_tf, ↓gate_ft, ↓gate_undef, ↓o_bind, ↓stay_v, ↓pop_cons, ↓fin_nil, Option.isNone_none, Option.isNone_some, Bool.not_true, Bool.not_false, Nat.zero_add, decide_true, decide_false, if_true, if_false, Bool.false_eq_true, ↓reduceIte, beq_self_eq_true]
  refine k p d b m r w ?_
  unfold rlI at h ⊢
  unfold lgI
  exact h.perm (by ac_rfl)
end Go.Proofs.YtgkeplodfkmnlaaGreat

/-
  A log: how much of it is used, and its groups' number.
-/
set_option linter.all false
set_option maxRecDepth 100000
namespace Go.Proofs.YtgkeplodfkmnlaaGreat
open Go Hold
variable {E : World0} {w : World} {H R X : HP} {K : Value → World → Prop}
theorem Used_spec {p d b : Nat} {S : Lg} (h : sat E w (lgI p d b S R)) (k : K (.int .i64 S.used) w) : Calls prog 12 #[.pointer (some ⟨p, 0, none⟩)] w (Ret K) := by
  unfold lgI lcells at *
  refine c12 ?_
  unfold B12
  simp only [↓o_nil, ↓o_field, ↓o_add, ↓o_sub, ↓o_mul, ↓o_lss, ↓o_leq, ↓o_gtr, ↓o_geq, ↓o_not, ↓o_pick, ↓o_eqInt, ↓o_neInt, ↓o_eqBool, ↓o_neBool, ↓o_eqPtr, ↓o_nePtr, ↓o_eqPtr', ↓o_eqSl, ↓o_neSl, ↓o_eqStr, ↓o_neStr, ↓o_len, ↓o_lenS, ↓o_min, ↓o_max, ↓o_extract, ↓o_convInt, ↓cd_true, ↓cd_false, ↓gate_tt, ↓gate_ff, ↓gate_tf, ↓gate_ft, ↓gate_undef, ↓o_bind, ↓stay_v, ↓pop_cons, ↓fin_nil, Option.isNone_none, Option.isNone_some, Bool.not_true, Bool.not_false, Nat.zero_add, decide_true, decide_false, if_true, if_false, Bool.false_eq_true, ↓reduceIte]
  refine ld_at h ?_
  exact k
theorem Used_nil (k : K (.int .i64 0) w) : Calls prog 12 #[.pointer none] w (Ret K) := by
  refine c12 ?_
  unfold B12
  simp only [↓o_nil, ↓o_field, ↓o_add, ↓o_sub, ↓o_mul, ↓o_lss, ↓o_leq, ↓o_gtr, ↓o_geq, ↓o_not, ↓o_pick, ↓o_eqInt, ↓o_neInt, ↓o_eqBool, ↓o_neBool, ↓o_eqPtr, ↓o_nePtr, ↓o_eqPtr', ↓o_eqSl, ↓o_neSl, ↓o_eqStr, ↓o_neStr, ↓o_len, ↓o_lenS, ↓o_min, ↓o_max, ↓o_extract, ↓o_convInt, ↓cd_true, ↓cd_false, ↓gate_tt, ↓gate_ff, ↓gate_tf, ↓gate_ft, ↓gate_undef, ↓o_bind, ↓stay_v, ↓pop_cons, ↓fin_nil, Option.isNone_none, Option.isNone_some, Bool.not_true, Bool.not_false, Nat.zero_add, decide_true, decide_false, if_true, if_false, Bool.false_eq_true, ↓reduceIte]
  exact k
theorem Groups_spec {p d b : Nat} {S : Lg} (h : sat E w (lgI p d b S R)) (k : K (.int .i64 S.groups) w) : Calls prog 18 #[.pointer (some ⟨p, 0, none⟩)] w (Ret K) := by
  unfold lgI lcells at *
  refine c18 ?_
  unfold B18
  simp only [↓o_nil, ↓o_field, ↓o_add, ↓o_sub, ↓o_mul, ↓o_lss, ↓o_leq, ↓o_gtr, ↓o_geq, ↓o_not, ↓o_pick, ↓o_eqInt, ↓o_neInt, ↓o_eqBool, ↓o_neBool, ↓o_eqPtr, ↓o_nePtr, ↓o_eqPtr', ↓o_eqSl, ↓o_neSl, ↓o_eqStr, ↓o_neStr, ↓o_len, ↓o_lenS, ↓o_min, ↓o_max, ↓o_extract, ↓o_convInt, ↓cd_true, ↓cd_false, ↓gate_tt, ↓gate_ff, ↓gate_tf, ↓gate_ft, ↓gate_undef, ↓o_bind, ↓stay_v, ↓pop_cons, ↓fin_nil, Option.isNone_none, Option.isNone_some, Bool.not_true, Bool.not_false, Nat.zero_add, decide_true, decide_false, if_true, if_false, Bool.false_eq_true, ↓reduceIte]
  refine ld_at h ?_
  exact k
theorem Groups_nil (k : K (.int .i64 0) w) : Calls prog 18 #[.pointer none] w (Ret K) := by
  refine c18 ?_
  unfold B18
  simp only [↓o_nil, ↓o_field, ↓o_add, ↓o_sub, ↓o_mul, ↓o_lss, ↓o_leq, ↓o_gtr, ↓o_geq, ↓o_not, ↓o_pick, ↓o_eqInt, ↓o_neInt, ↓o_eqBool, ↓o_neBool, ↓o_eqPtr, ↓o_nePtr, ↓o_eqPtr', ↓o_eqSl, ↓o_neSl, ↓o_eqStr, ↓o_neStr, ↓o_len, ↓o_lenS, ↓o_min, ↓o_max, ↓o_extract, ↓o_convInt, ↓cd_true, ↓cd_false, ↓gate_tt, ↓gate_ff, ↓gate_tf, ↓gate_ft, ↓gate_undef, ↓o_bind, ↓stay_v, ↓pop_cons, ↓fin_nil, Option.isNone_none, Option.isNone_some, Bool.not_true, Bool.not_false, Nat.zero_add, decide_true, decide_false, if_true, if_false, Bool.false_eq_true, ↓reduceIte]
  exact k
end Go.Proofs.YtgkeplodfkmnlaaGreat

/-
  What a disk's writes were; rows of numbers compared.
-/
set_option linter.all false
set_option maxRecDepth 100000
namespace Go.Proofs.YtgkeplodfkmnlaaGreat
open Go Hold
variable {E : World0} {w : World} {H R : HP} {K : Value → World → Prop}
theorem SameInts_spec (h : sat E w H) {v u : Value} {l m : List Int} (hv : Rds H v l.length (l.map iv)) (hu : Rds H u m.length (m.map iv)) (hl : l.length ≤ 140737488355328)
    (k : ∀ w', sat E w' H → K (.bool (decide (l = m))) w') : Calls prog 19 #[v, u] w (Ret K) := by
  obtain ⟨a, c, rfl, hc, hv, _⟩ := hv.shape h
  obtain ⟨a', c', rfl, hc', hu, _⟩ := hu.shape h
  refine c19 ?_
  unfold B19
  simp only [↓o_nil, ↓o_field, ↓o_add, ↓o_sub, ↓o_mul, ↓o_lss, ↓o_leq, ↓o_gtr, ↓o_geq, ↓o_not, ↓o_pick, ↓o_eqInt, ↓o_neInt, ↓o_eqBool, ↓o_neBool, ↓o_eqPtr, ↓o_nePtr, ↓o_eqPtr', ↓o_eqSl, ↓o_neSl, ↓o_eqStr, ↓o_neStr, ↓o_len, ↓o_lenS, ↓o_min, ↓o_max, ↓o_extract, ↓o_convInt, ↓cd_true, ↓cd_false, ↓gate_tt, ↓gate_ff, ↓gate_tf, ↓gate_ft, ↓gate_undef, ↓o_bind, ↓stay_v, ↓pop_cons, ↓fin_nil, Option.isNone_none, Option.isNone_some, Bool.not_true, Bool.not_false, Nat.zero_add, decide_true, decide_false, if_true, if_false, Bool.false_eq_true, ↓reduceIte]
  refine cd_dec' (fun he => ?_) (fun hne => ?_)
  · have he : l.length = m.length := by omega
    refine lp_nat (fun n σ w => ∃ i : Nat, σ = [.int .i64 i] ∧ n = l.length - i ∧ i ≤ l.length ∧ l.take i = m.take i ∧ sat E w H) l.length ⟨0, rfl, rfl, by omega, rfl, h⟩ ?_
    rintro n σ w again ⟨i, rfl, rfl, hi, heq, h⟩ hag
    simp only [↓o_nil, ↓o_field, ↓o_add, ↓o_sub, ↓o_mul, ↓o_lss, ↓o_leq, ↓o_gtr, ↓o_geq, ↓o_not, ↓o_pick, ↓o_eqInt, ↓o_neInt, ↓o_eqBool, ↓o_neBool, ↓o_eqPtr, ↓o_nePtr, ↓o_eqPtr', ↓o_eqSl, ↓o_neSl, ↓o_eqStr, ↓o_neStr, ↓o_len, ↓o_lenS, ↓o_min, ↓o_max, ↓o_extract, ↓o_convInt, ↓cd_true, ↓cd_false, ↓gate_tt, ↓gate_ff, ↓gate_tf, ↓gate_ft, ↓gate_undef, ↓o_bind, ↓stay_v, ↓pop_cons, ↓fin_nil, Option.isNone_none, Option.isNone_some, Bool.not_true, Bool.not_false, Nat.zero_add, decide_true, decide_false, if_true, if_false, Bool.false_eq_true, ↓reduceIte]
    refine cd_dec (fun hlt => ?_) (fun hge => ?_)
    · have hlt : i < l.length := by omega
      refine dr_sl h fun w h _ => ?_
      obtain ⟨b1, o1, rfl, hb1⟩ := win_cell (hv.win h) (j := i) (by simp; omega)
      obtain ⟨b2, o2, rfl, hb2⟩ := win_cell (hu.win h) (j := i) (by simp; omega)
      rw [o_index (by omega) (by omega)]
      simp only [Int.toNat_natCast, Nat.mul_one]
      rw [o_index (by omega) (by omega)]
      simp only [Int.toNat_natCast, Nat.mul_one]
      refine ld_cell hb1 ?_
      refine ld_cell hb2 ?_
      simp only [List.getElem_map, iv, ↓o_nil, ↓o_field, ↓o_add, ↓o_sub, ↓o_mul, ↓o_lss, ↓o_leq, ↓o_gtr, ↓o_geq, ↓o_not, ↓o_pick, ↓o_eqInt, ↓o_neInt, ↓o_eqBool, ↓o_neBool, ↓o_eqPtr, ↓o_nePtr, ↓o_eqPtr', ↓o_eqSl, ↓o_neSl, ↓o_eqStr, ↓o_neStr, ↓o_len, ↓o_lenS, ↓o_min, ↓o_max, ↓o_extract, ↓o_convInt, ↓cd_true, ↓cd_false, ↓gate_tt, ↓gate_ff, ↓gate_tf, ↓gate_ft, ↓gate_undef, ↓o_bind, ↓stay_v, ↓pop_cons, ↓fin_nil, Option.isNone_none, Option.isNone_some, Bool.not_true, Bool.not_false, Nat.zero_add, decide_true, decide_false, if_true, if_false, Bool.false_eq_true, ↓reduceIte]
      refine cd_dec' (fun he2 => ?_) (fun hne => ?_)
      · rw [i64_of (by omega) (by omega)]
        refine hag _ _ _ (by omega) ⟨i + 1, rfl, rfl, by omega, ?_, h⟩
        rw [List.take_succ_eq_append_getElem hlt, List.take_succ_eq_append_getElem (by omega), heq, he2]
      · have : l ≠ m := by rintro rfl; exact hne rfl
        have := k w h
        simpa [*] using this
    · have : l = m := by
        have hi2 : i = l.length := by omega
        rw [hi2, List.take_length, he, List.take_length] at heq
        exact heq
      subst this
      simpa using k w h
  · have : l ≠ m := by rintro rfl; exact hne rfl
    simpa [this] using k w h
/-! ### Writes -/
theorem Writes_nil (k : K (.slice none 0 0) w) : Calls prog 29 #[.pointer none] w (Ret K) := by
  refine c29 ?_
  unfold B29
  refine jn_cut (fun σ w' => σ = [.slice none 0 0] ∧ w' = w) ?_ ?_
  · intro kk hk
    simp only [↓o_nil, ↓o_field, ↓o_add, ↓o_sub, ↓o_mul, ↓o_lss, ↓o_leq, ↓o_gtr, ↓o_geq, ↓o_not, ↓o_pick, ↓o_eqInt, ↓o_neInt, ↓o_eqBool, ↓o_neBool, ↓o_eqPtr, ↓o_nePtr, ↓o_eqPtr', ↓o_eqSl, ↓o_neSl, ↓o_eqStr, ↓o_neStr, ↓o_len, ↓o_lenS, ↓o_min, ↓o_max, ↓o_extract, ↓o_convInt, ↓cd_true, ↓cd_false, ↓gate_tt, ↓gate_ff, ↓gate_tf, ↓gate_ft, ↓gate_undef, ↓o_bind, ↓stay_v, ↓pop_cons, ↓fin_nil, Option.isNone_none, Option.isNone_some, Bool.not_true, Bool.not_false, Nat.zero_add, decide_true, decide_false, if_true, if_false, Bool.false_eq_true, ↓reduceIte]
    exact hk _ _ ⟨rfl, rfl⟩
  · rintro σ w' ⟨rfl, rfl⟩
    simp only [↓o_nil, ↓o_field, ↓o_add, ↓o_sub, ↓o_mul, ↓o_lss, ↓o_leq, ↓o_gtr, ↓o_geq, ↓o_not, ↓o_pick, ↓o_eqInt, ↓o_neInt, ↓o_eqBool, ↓o_neBool, ↓o_eqPtr, ↓o_nePtr, ↓o_eqPtr', ↓o_eqSl, ↓o_neSl, ↓o_eqStr, ↓o_neStr, ↓o_len, ↓o_lenS, ↓o_min, ↓o_max, ↓o_extract, ↓o_convInt, ↓cd_true, ↓cd_false, ↓gate_tt, ↓gate_ff, ↓gate_tf, ↓gate_ft, ↓gate_undef, ↓o_bind, ↓stay_v, ↓pop_cons, ↓fin_nil, Option.isNone_none, Option.isNone_some, Bool.not_true, Bool.not_false, Nat.zero_add, decide_true, decide_false, if_true, if_false, Bool.false_eq_true, ↓reduceIte]
    exact k
theorem Writes_spec {d : Nat} {L : List (List UInt8)} {W : List (Int × List UInt8)} (h : sat E w H) [s : DskS H d L W R] (hW : W.length ≤ 1000000)
    (k : ∀ v' w', sat E w' (osl 3 1 v' (W.map (·.1)).length ((W.map (·.1)).map iv) * H) → K v' w') : Calls prog 29 #[.pointer (some ⟨d, 0, none⟩)] w (Ret K) := by
  obtain ⟨lv, vs, wv, ws, e, hd⟩ := sat_dsk.1 (h.dsks d)
  have hL2 : ws.length = W.length := by simpa using hd.drop.drop.drop.drop.pers_get.1
  have hwl := wcells_length ws
  have hone := wcells_one hd.drop.drop.drop.drop.pers_get
  obtain ⟨al, cl, rfl, hcl, hll, _⟩ := osl_shape hd.drop.drop
  refine c29 ?_
  unfold B29
  refine jn_cut (fun σ w' => ∃ v', σ = [v'] ∧ sat E w' (osl 3 1 v' (W.map (·.1)).length ((W.map (·.1)).map iv) * H)) ?_ ?_
  · intro kk hk
    simp only [↓o_nil, ↓o_field, ↓o_add, ↓o_sub, ↓o_mul, ↓o_lss, ↓o_leq, ↓o_gtr, ↓o_geq, ↓o_not, ↓o_pick, ↓o_eqInt, ↓o_neInt, ↓o_eqBool, ↓o_neBool, ↓o_eqPtr, ↓o_nePtr, ↓o_eqPtr', ↓o_eqSl, ↓o_neSl, ↓o_eqStr, ↓o_neStr, ↓o_len, ↓o_lenS, ↓o_min, ↓o_max, ↓o_extract, ↓o_convInt, ↓cd_true, ↓cd_false, ↓gate_tt, ↓gate_ff, ↓gate_tf, ↓gate_ft, ↓gate_undef, ↓o_bind, ↓stay_v, ↓pop_cons, ↓fin_nil, Option.isNone_none, Option.isNone_some, Bool.not_true, Bool.not_false, Nat.zero_add, decide_true, decide_false, if_true, if_false, Bool.false_eq_true, ↓reduceIte]
    refine ld_at hd ?_
    simp only [↓o_nil, ↓o_field, ↓o_add, ↓o_sub, ↓o_mul, ↓o_lss, ↓o_leq, ↓o_gtr, ↓o_geq, ↓o_not, ↓o_pick, ↓o_eqInt, ↓o_neInt, ↓o_eqBool, ↓o_neBool, ↓o_eqPtr, ↓o_nePtr, ↓o_eqPtr', ↓o_eqSl, ↓o_neSl, ↓o_eqStr, ↓o_neStr, ↓o_len, ↓o_lenS, ↓o_min, ↓o_max, ↓o_extract, ↓o_convInt, ↓cd_true, ↓cd_false, ↓gate_tt, ↓gate_ff, ↓gate_tf, ↓gate_ft, ↓gate_undef, ↓o_bind, ↓stay_v, ↓pop_cons, ↓fin_nil, Option.isNone_none, Option.isNone_some, Bool.not_true, Bool.not_false, Nat.zero_add, decide_true, decide_false, if_true, if_false, Bool.false_eq_true, ↓reduceIte]
    refine lp_nat (fun m σ w => ∃ (i : Nat) (ov : Value), σ = [ov, .int .i64 i] ∧ m = W.length - i ∧ i ≤ W.length ∧
      sat E w (osl 3 1 ov i (((ws.map (·.1)).take i).map iv) * (pts d (.cells [lv, .slice al W.length cl, .int .i64 W.length].toArray 88 (0, 0)) * (osl 60 1 lv L.length vs * (osl 95 2 (.slice al W.length cl) W.length (wcells ws) * (pers (immAll vs L) * (pers (immAll (ws.map (·.2)) (W.map (·.2))) * R))))))) W.length ⟨0, _, rfl, rfl, by omega, osl_nil hd 3 1⟩ ?_
    rintro m σ w again ⟨i, ov, rfl, rfl, hi, h⟩ hag
    simp only [↓o_nil, ↓o_field, ↓o_add, ↓o_sub, ↓o_mul, ↓o_lss, ↓o_leq, ↓o_gtr, ↓o_geq, ↓o_not, ↓o_pick, ↓o_eqInt, ↓o_neInt, ↓o_eqBool, ↓o_neBool, ↓o_eqPtr, ↓o_nePtr, ↓o_eqPtr', ↓o_eqSl, ↓o_neSl, ↓o_eqStr, ↓o_neStr, ↓o_len, ↓o_lenS, ↓o_min, ↓o_max, ↓o_extract, ↓o_convInt, ↓cd_true, ↓cd_false, ↓gate_tt, ↓gate_ff, ↓gate_tf, ↓gate_ft, ↓gate_undef, ↓o_bind, ↓stay_v, ↓pop_cons, ↓fin_nil, Option.isNone_none, Option.isNone_some, Bool.not_true, Bool.not_false, Nat.zero_add, decide_true, decide_false, if_true, if_false, Bool.false_eq_true, ↓reduceIte]
    refine cd_dec (fun hlt => ?_) (fun hge => ?_)
    · have hlt : i < W.length := by omega
      have hj : i < ws.length := by omega
      obtain ⟨g1, g2⟩ := wcells_get ws i hj
      obtain ⟨bl, cl', sp, hvl, _, _, hP, _⟩ := osl_open (h.owns (.slice al W.length cl)) (by omega)
      cases hvl
      rw [o_index (by omega) (by omega)]
      simp only [Int.toNat_natCast, Nat.zero_add, ↓o_nil, ↓o_field, ↓o_add, ↓o_sub, ↓o_mul, ↓o_lss, ↓o_leq, ↓o_gtr, ↓o_geq, ↓o_not, ↓o_pick, ↓o_eqInt, ↓o_neInt, ↓o_eqBool, ↓o_neBool, ↓o_eqPtr, ↓o_nePtr, ↓o_eqPtr', ↓o_eqSl, ↓o_neSl, ↓o_eqStr, ↓o_neStr, ↓o_len, ↓o_lenS, ↓o_min, ↓o_max, ↓o_extract, ↓o_convInt, ↓cd_true, ↓cd_false, ↓gate_tt, ↓gate_ff, ↓gate_tf, ↓gate_ft, ↓gate_undef, ↓o_bind, ↓stay_v, ↓pop_cons, ↓fin_nil, Option.isNone_none, Option.isNone_some, Bool.not_true, Bool.not_false, Nat.zero_add, decide_true, decide_false, if_true, if_false, Bool.false_eq_true, ↓reduceIte]
      have hwin := (Rds.own (v := .slice (some ⟨bl, 0, none⟩) W.length cl)).win h
      have k1 := hwin.cell bl 0 rfl _ _ g1
      have k2 := hwin.cell bl 0 rfl _ _ g2
      refine ldv_of (run_loadN (n := 2) (cs := [.int .i64 ws[i].1, ws[i].2]) rfl ?_) ?_
      · intro j v hj
        match j, hj with
        | 0, hj => simp at hj; subst hj; simpa using k1
        | 1, hj => simp at hj; subst hj; simpa [Nat.add_assoc] using k2
        | j + 2, hj => simp at hj
      refine alloc_sl h fun wb w h => ?_
      have h : sat E w (pts wb (.cells [Value.int .i64 0, .slice none 0 0].toArray 95 (0, 0)) * _) := h
      have ho : ws[i].2.oneCell' = true := hone _ (List.mem_of_getElem? g2)
      have hcs : ws[i].2.cells.toList = [ws[i].2] := cells_one ho
      refine storeN_sl (n := 2) h (by kernel_rfl) (vs := [.int .i64 ws[i].1, ws[i].2]) (by simp [Value.cells, hcs]) rfl (by intro x hx; simp only [List.mem_cons, List.not_mem_nil, or_false] at hx; rcases hx with rfl | rfl; rfl; exact ho) (by simp) fun w h => ?_
      simp only [List.take_zero, List.nil_append, List.length_cons, List.length_nil, List.drop_succ_cons, List.drop_zero, List.append_nil, Nat.zero_add] at h
      simp only [↓o_nil, ↓o_field, ↓o_add, ↓o_sub, ↓o_mul, ↓o_lss, ↓o_leq, ↓o_gtr, ↓o_geq, ↓o_not, ↓o_pick, ↓o_eqInt, ↓o_neInt, ↓o_eqBool, ↓o_neBool, ↓o_eqPtr, ↓o_nePtr, ↓o_eqPtr', ↓o_eqSl, ↓o_neSl, ↓o_eqStr, ↓o_neStr, ↓o_len, ↓o_lenS, ↓o_min, ↓o_max, ↓o_extract, ↓o_convInt, ↓cd_true, ↓cd_false, ↓gate_tt, ↓gate_ff, ↓gate_tf, ↓gate_ft, ↓gate_undef, ↓o_bind, ↓stay_v, ↓pop_cons, ↓fin_nil, Option.isNone_none, Option.isNone_some, Bool.not_true, Bool.not_false, Nat.zero_add, decide_true, decide_false, if_true, if_false, Bool.false_eq_true, ↓reduceIte]
      refine ld_at h ?_
      refine buildSlice_sl (e := 3) (cs := #[.int .i64 ws[i].1]) h (fun w => by kernel_rfl) fun b1 w h => ?_
      refine append_sl h [.int .i64 ws[i].1] rfl (.inr ⟨b1, 0, _, 3, (0, 0), rfl, h.pts_get, fun j v hj => by simpa using hj⟩) (by simp [Value.oneCell']) (by omega) (by omega) fun ov' w h => ?_
      rw [i64_of (by omega) (by omega)]
      refine hag _ _ _ (by omega) ⟨i + 1, ov', rfl, rfl, by omega, ?_⟩
      have e1 : ((ws.map (·.1)).take i).map iv ++ [Value.int .i64 ws[i].1] = ((ws.map (·.1)).take (i + 1)).map iv := by
        rw [List.take_succ_eq_append_getElem (by simpa using hj)]; simp [iv]
      rw [e1] at h
      exact ((h.lose b1).lose wb).perm (by ac_rfl)
    · have hi2 : i = W.length := by omega
      subst hi2
      refine hk _ _ ⟨ov, rfl, ?_⟩
      have e1 : (ws.map (·.1)).take W.length = W.map (·.1) := by rw [List.take_of_length_le (by simp; omega), e]
      rw [e1] at h
      have h := dsk_shut d L W e h
      rw [List.length_map]
      exact h.perm (by rw [s.eq]; ac_rfl)
  · rintro σ w' ⟨v', rfl, h⟩
    simp only [↓o_nil, ↓o_field, ↓o_add, ↓o_sub, ↓o_mul, ↓o_lss, ↓o_leq, ↓o_gtr, ↓o_geq, ↓o_not, ↓o_pick, ↓o_eqInt, ↓o_neInt, ↓o_eqBool, ↓o_neBool, ↓o_eqPtr, ↓o_nePtr, ↓o_eqPtr', ↓o_eqSl, ↓o_neSl, ↓o_eqStr, ↓o_neStr, ↓o_len, ↓o_lenS, ↓o_min, ↓o_max, ↓o_extract, ↓o_convInt, ↓cd_true, ↓cd_false, ↓gate_tt, ↓gate_ff, ↓gate_tf, ↓gate_ft, ↓gate_undef, ↓o_bind, ↓stay_v, ↓pop_cons, ↓fin_nil, Option.isNone_none, Option.isNone_some, Bool.not_true, Bool.not_false, Nat.zero_add, decide_true, decide_false, if_true, if_false, Bool.false_eq_true, ↓reduceIte]
    exact k _ _ h
end Go.Proofs.YtgkeplodfkmnlaaGreat

/-
  What must be whatever is asked; deeds on a log.
-/
set_option linter.all false
set_option maxRecDepth 100000
namespace Go.Proofs.YtgkeplodfkmnlaaGreat
open Go Hold
variable {E : World0} {w : World} {H R X : HP} {K : Value → World → Prop}
/-- The pages of a deed, as they are handed in. -/
theorem RdP.of {v : Value} {qs : List (Int × Value)} {x : Dd} (hq : qs.map (·.1) = x.pgs.map (·.1)) : RdP (osl 65 2 v x.pgs.length (wcells qs) * (rows (qs.map (·.2)) (bcells (x.pgs.map (·.2))) * R)) v qs x.pgs :=
  ⟨Rds.osl.left, hq, fun i q p h1 h2 => (rows_rds _ _ i q.2 p.2 (by rw [List.getElem?_map, h1]; rfl) (by rw [List.getElem?_map, h2]; rfl)).left.right⟩
/-- A log, wherever it stands. -/
theorem lg_get (p d b : Nat) (S : Lg) {R1 R2 R3 : HP} (h : sat E w H) [s1 : Own H p (.cells (lcells S d b).toArray 70 (0, 0)) R1] [s2 : DskS R1 d S.L S.W R2] [s3 : OwnM R2 b (mpA S.a) R3] : sat E w (lgI p d b S R3) := by
  unfold lgI
  rw [← s3.eq, ← s2.eq, ← s1.eq]
  exact h
theorem lg_drop {p d b : Nat} {S : Lg} (h : sat E w (lgI p d b S R)) : sat E w R := by
  unfold lgI at h
  exact h.drop.drop.drop
def ps0 : List (Int × Bs) := [(2, List.replicate 256 5), (0, List.replicate 256 6)]
theorem sort_ps0 : sortP ps0 = [(0, List.replicate 256 6), (2, List.replicate 256 5)] := by
  have h1 := sortP_rise (ps := ps0) (by decide)
  rw [List.pairwise_map] at h1
  exact ((sortP_perm ps0).trans (List.Perm.swap _ _ _)).eq_of_pairwise (fun x y _ _ a b => by omega) h1 (by simp)
theorem taken0 : Taken (newL 8 3) ps0 := by
  refine ⟨by decide, by decide, fun p hp => ?_, ⟨by decide, fun p hp => ?_⟩, by decide⟩
  · simp only [ps0, List.mem_cons, List.not_mem_nil, or_false] at hp
    rcases hp with rfl | rfl <;> decide
  · simp only [ps0, List.mem_cons, List.not_mem_nil, or_false] at hp
    rcases hp with rfl | rfl <;> exact List.length_replicate ..
theorem w_ps0 : (commitT (newL 8 3) ps0).W.map (·.1) = [1, 2, 3, 0] := by
  unfold commitT; rw [sort_ps0]; rfl
theorem r_ps0 : (commitT (newL 8 3) ps0).L.getD ((commitT (newL 8 3) ps0).place 0) [] = List.replicate 256 6 := by
  unfold commitT; rw [sort_ps0]; kernel_rfl
theorem live_spec (h : sat E w H) (k : ∀ w', sat E w' H → K (.bool true) w') : Calls prog 8 #[] w (Ret K) := by
  refine c8 ?_
  unfold B8
  refine New_spec h (n := 8) (by omega) (by omega) fun d0 w h => ?_
  try simp only [↓o_nil, ↓o_field, ↓o_add, ↓o_sub, ↓o_mul, ↓o_lss, ↓o_leq, ↓o_gtr, ↓o_geq, ↓o_not, ↓o_pick, ↓o_eqInt, ↓o_neInt, ↓o_eqBool, ↓o_neBool, ↓o_eqPtr, ↓o_nePtr, ↓o_eqPtr', ↓o_eqSl, ↓o_neSl, ↓o_eqStr, ↓o_neStr, ↓o_len, ↓o_lenS, ↓o_min, ↓o_max, ↓o_extract, ↓o_convInt, ↓cd_true, ↓cd_false, ↓gate_tt, ↓gate_ff, ↓gate_tf, ↓gate_ft, ↓gate_undef, ↓o_bind, ↓stay_v, ↓pop_cons, ↓fin_nil, Option.isNone_none, Option.isNone_some, Bool.not_true, Bool.not_false, Nat.zero_add, decide_true, decide_false, if_true, if_false, Bool.false_eq_true, ↓reduceIte]
  rw [show (8 : Int).toNat = 8 from rfl] at h
  have i0 := newL_inv (n := 8) (size := 3) (by omega) (by omega) (by omega)
  refine Open_spec (S := newL 8 3) (gs := []) i0 rfl (by decide) (dd := d0) (W := []) h (Z_wf (by omega) (by omega)) fun p d b w h => ?_
  try simp only [↓o_nil, ↓o_field, ↓o_add, ↓o_sub, ↓o_mul, ↓o_lss, ↓o_leq, ↓o_gtr, ↓o_geq, ↓o_not, ↓o_pick, ↓o_eqInt, ↓o_neInt, ↓o_eqBool, ↓o_neBool, ↓o_eqPtr, ↓o_nePtr, ↓o_eqPtr', ↓o_eqSl, ↓o_neSl, ↓o_eqStr, ↓o_neStr, ↓o_len, ↓o_lenS, ↓o_min, ↓o_max, ↓o_extract, ↓o_convInt, ↓cd_true, ↓cd_false, ↓gate_tt, ↓gate_ff, ↓gate_tf, ↓gate_ft, ↓gate_undef, ↓o_bind, ↓stay_v, ↓pop_cons, ↓fin_nil, Option.isNone_none, Option.isNone_some, Bool.not_true, Bool.not_false, Nat.zero_add, decide_true, decide_false, if_true, if_false, Bool.false_eq_true, ↓reduceIte]
  refine buildSlice_sl (e := 3) (cs := #[.int .i64 2, .int .i64 0]) h (fun w => by kernel_rfl) fun b2 w h => ?_
  have h : sat E w (pts b2 (.cells ([(2 : Int), 0].map iv).toArray 3 (0, 0)) * lgI p d b (newL 8 3) (dsk d0 (List.replicate 8 zeros) [] * H)) := h
  refine pvv_of (v := .agg (dcells ⟨false, false, .slice (some ⟨b2, 0, none⟩) 2 2, [2, 0], 5⟩).toArray) (fun _ => by kernel_rfl) ?_
  have h := osl_of (n := 2) (sz := 1) h rfl (by omega)
  refine pages_spec h ⟨false, false, .slice (some ⟨b2, 0, none⟩) 2 2, [2, 0], 5⟩ ⟨Rds.own, by show 2 ≤ _; decide⟩ fun v qs w hq h => ?_
  have hps : (⟨false, false, .slice (some ⟨b2, 0, none⟩) 2 2, [2, 0], 5⟩ : Dd).pgs = ps0 := rfl
  have h : sat E w (lgI p d b (newL 8 3) (osl 65 2 v (⟨false, false, .slice (some ⟨b2, 0, none⟩) 2 2, [2, 0], 5⟩ : Dd).pgs.length (wcells qs) * (rows (qs.map (·.2)) (bcells ((⟨false, false, .slice (some ⟨b2, 0, none⟩) 2 2, [2, 0], 5⟩ : Dd).pgs.map (·.2))) * (osl 3 1 (.slice (some ⟨b2, 0, none⟩) 2 2) 2 ([(2 : Int), 0].map iv) * (dsk d0 (List.replicate 8 zeros) [] * H))))) := by
    unfold lgI at h ⊢
    exact h.perm (by ac_rfl)
  refine Commit_spec i0 h (RdP.of hq) (by decide) (by decide) fun w h => ?_
  rw [hps] at h ⊢
  have hc : commitS (newL 8 3) ps0 = commitT (newL 8 3) ps0 := by unfold commitS; rw [if_pos ⟨taken0.err, by decide⟩]
  rw [taken0.err]
  rw [hc] at h
  have i1 := i0.commit taken0
  have hl1 := commitT_len (newL 8 3) ps0
  have hu := commitT_used (newL 8 3) ps0
  generalize hT : commitT (newL 8 3) ps0 = T at h i1 hl1 hu
  have hLl : T.L.length = 8 := by rw [hl1.1]; rfl
  have hWl : T.W.length = 4 := by rw [hl1.2]; rfl
  refine Disk_spec h (by omega) (by omega) fun f w h => ?_
  refine Writes_spec h (by omega) fun wv w h => ?_
  have hw4 : T.W.map (·.1) = [1, 2, 3, 0] := by rw [← hT]; exact w_ps0
  rw [hw4] at h
  have h : sat E w (lgI p d b T (osl 3 1 wv [(1 : Int), 2, 3, 0].length ([(1 : Int), 2, 3, 0].map iv) * (dsk f T.L T.W * (osl 65 2 v ps0.length (wcells qs) * (rows (qs.map (·.2)) (bcells (ps0.map (·.2))) * (osl 3 1 (.slice (some ⟨b2, 0, none⟩) 2 2) 2 ([(2 : Int), 0].map iv) * (dsk d0 (List.replicate 8 zeros) [] * H))))))) := by
    unfold lgI at h ⊢
    exact h.perm (by ac_rfl)
  have hsz : T.size = 3 := by rw [← hT, commitT_size]; rfl
  have hpg : T.pages = 4 := by unfold Lg.pages; rw [hLl, hsz]
  refine Read_ok (n := 0) h (by omega) (by omega) (by omega) i1.wf.l (fun v e => i1.look e) (i1.place_lt (by omega)) fun rv w h => ?_
  have hr : T.L.getD (T.place 0) [] = List.replicate 256 6 := by rw [← hT]; exact r_ps0
  rw [hr] at h
  try simp only [↓o_nil, ↓o_field, ↓o_add, ↓o_sub, ↓o_mul, ↓o_lss, ↓o_leq, ↓o_gtr, ↓o_geq, ↓o_not, ↓o_pick, ↓o_eqInt, ↓o_neInt, ↓o_eqBool, ↓o_neBool, ↓o_eqPtr, ↓o_nePtr, ↓o_eqPtr', ↓o_eqSl, ↓o_neSl, ↓o_eqStr, ↓o_neStr, ↓o_len, ↓o_lenS, ↓o_min, ↓o_max, ↓o_extract, ↓o_convInt, ↓cd_true, ↓cd_false, ↓gate_tt, ↓gate_ff, ↓gate_tf, ↓gate_ft, ↓gate_undef, ↓o_bind, ↓stay_v, ↓pop_cons, ↓fin_nil, Option.isNone_none, Option.isNone_some, Bool.not_true, Bool.not_false, Nat.zero_add, decide_true, decide_false, if_true, if_false, Bool.false_eq_true, ↓reduceIte]
  refine buildSlice_sl (e := 3) (cs := #[.int .i64 1, .int .i64 2, .int .i64 3, .int .i64 0]) h (fun w => by kernel_rfl) fun b3 w h => ?_
  have h : sat E w (pts b3 (.cells ([(1 : Int), 2, 3, 0].map iv).toArray 3 (0, 0)) * _) := h
  have h := osl_of (n := 4) (sz := 1) h rfl (by omega)
  unfold lgI at h
  refine SameInts_spec h (l := [(1 : Int), 2, 3, 0]) (m := [(1 : Int), 2, 3, 0]) Rds.own Rds.own (by decide) fun w h => ?_
  try simp only [↓o_nil, ↓o_field, ↓o_add, ↓o_sub, ↓o_mul, ↓o_lss, ↓o_leq, ↓o_gtr, ↓o_geq, ↓o_not, ↓o_pick, ↓o_eqInt, ↓o_neInt, ↓o_eqBool, ↓o_neBool, ↓o_eqPtr, ↓o_nePtr, ↓o_eqPtr', ↓o_eqSl, ↓o_neSl, ↓o_eqStr, ↓o_neStr, ↓o_len, ↓o_lenS, ↓o_min, ↓o_max, ↓o_extract, ↓o_convInt, ↓cd_true, ↓cd_false, ↓gate_tt, ↓gate_ff, ↓gate_tf, ↓gate_ft, ↓gate_undef, ↓o_bind, ↓stay_v, ↓pop_cons, ↓fin_nil, Option.isNone_none, Option.isNone_some, Bool.not_true, Bool.not_false, Nat.zero_add, decide_true, decide_false, if_true, if_false, Bool.false_eq_true, ↓reduceIte]
  have h := h.owns rv
  obtain ⟨q, c, sp, rfl, hql, hc2, hP, _⟩ := osl_open h (by omega)
  have e256 : ((256 : Nat) : Int) = 256 := rfl
  try simp only [e256, ↓o_nil, ↓o_field, ↓o_add, ↓o_sub, ↓o_mul, ↓o_lss, ↓o_leq, ↓o_gtr, ↓o_geq, ↓o_not, ↓o_pick, ↓o_eqInt, ↓o_neInt, ↓o_eqBool, ↓o_neBool, ↓o_eqPtr, ↓o_nePtr, ↓o_eqPtr', ↓o_eqSl, ↓o_neSl, ↓o_eqStr, ↓o_neStr, ↓o_len, ↓o_lenS, ↓o_min, ↓o_max, ↓o_extract, ↓o_convInt, ↓cd_true, ↓cd_false, ↓gate_tt, ↓gate_ff, ↓gate_tf, ↓gate_ft, ↓gate_undef, ↓o_bind, ↓stay_v, ↓pop_cons, ↓fin_nil, Option.isNone_none, Option.isNone_some, Bool.not_true, Bool.not_false, Nat.zero_add, decide_true, decide_false, if_true, if_false, Bool.false_eq_true, ↓reduceIte]
  rw [o_index (by omega) (by omega)]
  simp only [Int.toNat_zero, Nat.zero_mul, Nat.add_zero]
  refine ld_in hP (v := .int .u8 6) rfl ?_
  try simp only [↓o_nil, ↓o_field, ↓o_add, ↓o_sub, ↓o_mul, ↓o_lss, ↓o_leq, ↓o_gtr, ↓o_geq, ↓o_not, ↓o_pick, ↓o_eqInt, ↓o_neInt, ↓o_eqBool, ↓o_neBool, ↓o_eqPtr, ↓o_nePtr, ↓o_eqPtr', ↓o_eqSl, ↓o_neSl, ↓o_eqStr, ↓o_neStr, ↓o_len, ↓o_lenS, ↓o_min, ↓o_max, ↓o_extract, ↓o_convInt, ↓cd_true, ↓cd_false, ↓gate_tt, ↓gate_ff, ↓gate_tf, ↓gate_ft, ↓gate_undef, ↓o_bind, ↓stay_v, ↓pop_cons, ↓fin_nil, Option.isNone_none, Option.isNone_some, Bool.not_true, Bool.not_false, Nat.zero_add, decide_true, decide_false, if_true, if_false, Bool.false_eq_true, ↓reduceIte]
  have hP := lg_get p d b T hP
  refine Used_spec hP ?_
  have hu3 : (T.used : Int) = 3 := by rw [hu]; rfl
  simp only [hu3, ↓o_nil, ↓o_field, ↓o_add, ↓o_sub, ↓o_mul, ↓o_lss, ↓o_leq, ↓o_gtr, ↓o_geq, ↓o_not, ↓o_pick, ↓o_eqInt, ↓o_neInt, ↓o_eqBool, ↓o_neBool, ↓o_eqPtr, ↓o_nePtr, ↓o_eqPtr', ↓o_eqSl, ↓o_neSl, ↓o_eqStr, ↓o_neStr, ↓o_len, ↓o_lenS, ↓o_min, ↓o_max, ↓o_extract, ↓o_convInt, ↓cd_true, ↓cd_false, ↓gate_tt, ↓gate_ff, ↓gate_tf, ↓gate_ft, ↓gate_undef, ↓o_bind, ↓stay_v, ↓pop_cons, ↓fin_nil, Option.isNone_none, Option.isNone_some, Bool.not_true, Bool.not_false, Nat.zero_add, decide_true, decide_false, if_true, if_false, Bool.false_eq_true, ↓reduceIte]
  refine Need_spec ?_
  simp only [show (if (2 : Int) < 1 ∨ 100 < (2 : Int) then (0 : Int) else 2 + 1) = 3 from rfl, ↓o_nil, ↓o_field, ↓o_add, ↓o_sub, ↓o_mul, ↓o_lss, ↓o_leq, ↓o_gtr, ↓o_geq, ↓o_not, ↓o_pick, ↓o_eqInt, ↓o_neInt, ↓o_eqBool, ↓o_neBool, ↓o_eqPtr, ↓o_nePtr, ↓o_eqPtr', ↓o_eqSl, ↓o_neSl, ↓o_eqStr, ↓o_neStr, ↓o_len, ↓o_lenS, ↓o_min, ↓o_max, ↓o_extract, ↓o_convInt, ↓cd_true, ↓cd_false, ↓gate_tt, ↓gate_ff, ↓gate_tf, ↓gate_ft, ↓gate_undef, ↓o_bind, ↓stay_v, ↓pop_cons, ↓fin_nil, Option.isNone_none, Option.isNone_some, Bool.not_true, Bool.not_false, Nat.zero_add, decide_true, decide_false, if_true, if_false, Bool.false_eq_true, ↓reduceIte]
  exact k w ((lg_drop hP).split H).drop'
end Go.Proofs.YtgkeplodfkmnlaaGreat
