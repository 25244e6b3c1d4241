/-
  AuditRooms: the walk.
-/
import Derived.Test.YtjeiojibnmfibaaDoorAudJ
set_option linter.all false
set_option maxRecDepth 100000
namespace Go.Proofs.YtjeiojibnmfibaaDoor.Rooms
open Go Hold Go.ChangeShapes Go.WideShapes Go.ChangeAt Go.RowKit
variable {E : World0} {w : World} {H R : HP} {K : Value → World → Prop}
theorem add_room {s : Ch} {t : Int} (h0 : 0 ≤ t) (h1 : t ≤ 1000) (h2 : s.last ≤ t) (h3 : s.l.length < 64) : addS s t [120] [121] = ({ s with l := s.l ++ [newE s t [120] [121]], hd := nx s.hd (newE s t [120] [121]), last := t }, newE s t [120] [121], 0) := by
  unfold addS; rw [if_neg (by omega), if_neg (by decide), if_neg (by omega), if_neg (by omega)]
theorem add_full {s : Ch} {t : Int} (h0 : 0 ≤ t) (h1 : t ≤ 1000) (h2 : s.last ≤ t) (h3 : 64 ≤ s.l.length) : addS s t [120] [121] = (s, zeroE, 26) := by
  unfold addS; rw [if_neg (by omega), if_neg (by decide), if_neg (by omega), if_pos (by omega)]
theorem Rooms_spec (h : sat E w H) (hd : Dbt H) (n k' : UInt8) (k : ∀ w', sat E w' H → K (.bool true) w') : Calls prog 4 #[bv n, bv k'] w (Ret K) := by
  have t0 : ∀ n : Int, decide (n = n) = true := fun n => decide_eq_true rfl
  have t1 : decide ((26 : Int) = 0) = false := rfl
  have hn := n.toNat_lt
  have hk' := k'.toNat_lt
  refine c4 ?_
  unfold B4
  refine New_spec h fun p w h => ?_
  refine live_spec (H := chI p newS (.slice none 0 0) H) h hd.up fun w h => ?_
  simp only [↓o_not, Bool.not_true, ↓cd_false]
  refine lp_nat (fun q σ w => ∃ (i : Nat) (s : Ch) (v : Value), σ = [.int .i64 (i : Int)] ∧ q = 80 - i ∧ i ≤ n.toNat % 80 ∧ Ok s i ∧ s.l.length = min i 64 ∧ s.last ≤ i ∧ s.bn = 0 ∧ sat E w (chI p s v H)) 80
    ⟨0, newS, _, rfl, by omega, by omega, ok_new, rfl, by decide, rfl, h⟩ ?_
  clear h
  rintro q σ w again ⟨i, s, v, rfl, rfl, hi, ok, hl, hlast, hbn, h⟩ hag
  have hm : n.toNat % 80 < 80 := Nat.mod_lt _ (by decide)
  rw [pop_cons, fin_nil]
  have e1 : bv n = .int .u8 (n.toNat : Int) := rfl
  rw [e1, o_convInt, i64_of (by omega) (by omega), o_rem (by decide)]
  have e2 : (n.toNat : Int).tmod 80 = ((n.toNat % 80 : Nat) : Int) := by rw [Int.tmod_eq_emod_of_nonneg (by omega)]; omega
  rw [e2, o_lss]
  refine cd_dec (fun hlt => ?_) (fun hge => ?_)
  · refine Add_spec (a := [120]) (b := [121]) ok (by omega) hd h fun v' w h => ?_
    rw [o_extract, o_extract]
    refine evt_in h fun xb w h => ?_
    have h := h.drop
    by_cases hf : i < 64
    · have e3 := add_room (s := s) (t := i) (by omega) (by omega) (by omega) (by omega)
      have ok' : Ok (addS s i [120] [121]).1 (i + 1) := ok_add ok
      rw [e3] at h ok' ⊢
      have t2 : decide ((i : Int) < 64) = true := decide_eq_true (by omega)
      simp only [t0, t2, ↓o_nil, ↓o_field, ↓o_add, ↓o_sub, ↓o_mul, ↓o_lss, ↓o_leq, ↓o_gtr, ↓o_geq, ↓o_not, ↓o_pick, ↓o_eqInt, ↓o_neInt, ↓o_eqBool, ↓o_neBool, ↓o_eqPtr, ↓o_nePtr, ↓o_eqPtr', ↓o_eqSl, ↓o_neSl, ↓o_eqStr, ↓o_neStr, ↓o_len, ↓o_lenS, ↓o_min, ↓o_max, ↓o_extract, ↓o_convInt, ↓cd_true, ↓cd_false, ↓gate_tt, ↓gate_ff, ↓gate_tf, ↓gate_ft, ↓gate_undef, ↓o_bind, ↓stay_v, ↓pop_cons, ↓fin_nil, Option.isNone_none, Option.isNone_some, Bool.not_true, Bool.not_false, Nat.zero_add, decide_true, decide_false, if_true, if_false, Bool.false_eq_true, ↓reduceIte, beq_self_eq_true]
      rw [i64_of (by omega) (by omega)]
      refine hag (80 - (i + 1)) _ _ (by omega) ⟨i + 1, _, v', rfl, rfl, by omega, ok', ?_, ?_, hbn, h⟩
      · simp only [List.length_append, List.length_cons, List.length_nil]; omega
      · simp only; omega
    · have e3 := add_full (s := s) (t := i) (by omega) (by omega) (by omega) (by omega)
      have ok' : Ok (addS s i [120] [121]).1 (i + 1) := ok_add ok
      rw [e3] at h ok' ⊢
      have ok' : Ok s (i + 1) := ok'
      have t2 : decide ((i : Int) < 64) = false := decide_eq_false (by omega)
      simp only [t0, t1, t2, ↓o_nil, ↓o_field, ↓o_add, ↓o_sub, ↓o_mul, ↓o_lss, ↓o_leq, ↓o_gtr, ↓o_geq, ↓o_not, ↓o_pick, ↓o_eqInt, ↓o_neInt, ↓o_eqBool, ↓o_neBool, ↓o_eqPtr, ↓o_nePtr, ↓o_eqPtr', ↓o_eqSl, ↓o_neSl, ↓o_eqStr, ↓o_neStr, ↓o_len, ↓o_lenS, ↓o_min, ↓o_max, ↓o_extract, ↓o_convInt, ↓cd_true, ↓cd_false, ↓gate_tt, ↓gate_ff, ↓gate_tf, ↓gate_ft, ↓gate_undef, ↓o_bind, ↓stay_v, ↓pop_cons, ↓fin_nil, Option.isNone_none, Option.isNone_some, Bool.not_true, Bool.not_false, Nat.zero_add, decide_true, decide_false, if_true, if_false, Bool.false_eq_true, ↓reduceIte, beq_self_eq_true]
      rw [i64_of (by omega) (by omega)]
      exact hag (80 - (i + 1)) _ _ (by omega) ⟨i + 1, s, v', rfl, rfl, by omega, ok', by omega, by omega, hbn, h⟩
  · refine Events_spec ok h fun u w h => ?_
    obtain ⟨ua, uc, rfl, _⟩ := osl_shape h
    rw [o_len]
    refine Anchor_spec ok (by omega) h.drop fun w h => ?_
    have okA := ok_anchor ok
    have e1 : bv k' = .int .u8 (k'.toNat : Int) := rfl
    have hl64 : s.l.length ≤ 64 := ok.few
    have e2 : (k'.toNat : Int).tmod ((s.l.length : Int) + 1) = ((k'.toNat % (s.l.length + 1) : Nat) : Int) := by rw [Int.tmod_eq_emod_of_nonneg (by omega)]; simp
    rw [e1, o_convInt, i64_of (by omega) (by omega), o_add, i64_of (by omega) (by omega), o_rem (by omega), e2]
    have hto : k'.toNat % (s.l.length + 1) ≤ s.l.length := by have := Nat.mod_lt k'.toNat (show 0 < s.l.length + 1 by omega); omega
    generalize k'.toNat % (s.l.length + 1) = to at hto ⊢
    refine Prune_spec okA (by omega) hd h fun v' w h => ?_
    obtain ⟨s', e3, hl', hlast'⟩ : ∃ s' : Ch, pruneS (anchorS s) (to : Int) = (s', (to : Int), 0) ∧ s'.l.length = s.l.length - to ∧ s'.last ≤ 1000 := by
      refine ⟨{ (anchorS s) with bn := to, bh := links s.bh (s.l.take to), l := s.l.drop to }, ?_, by simp, show s.last ≤ 1000 by omega⟩
      unfold pruneS
      have h1 : (anchorS s).an = s.l.length := by simp only [anchorS]; omega
      have h2 : (anchorS s).bn = 0 := hbn
      rw [if_neg (by omega), h2]
      simp [anchorS]
    have okP : Ok (pruneS (anchorS s) (to : Int)).1 i := ok_prune okA
    rw [e3] at h okP ⊢
    simp only [t0, ↓o_nil, ↓o_field, ↓o_add, ↓o_sub, ↓o_mul, ↓o_lss, ↓o_leq, ↓o_gtr, ↓o_geq, ↓o_not, ↓o_pick, ↓o_eqInt, ↓o_neInt, ↓o_eqBool, ↓o_neBool, ↓o_eqPtr, ↓o_nePtr, ↓o_eqPtr', ↓o_eqSl, ↓o_neSl, ↓o_eqStr, ↓o_neStr, ↓o_len, ↓o_lenS, ↓o_min, ↓o_max, ↓o_extract, ↓o_convInt, ↓cd_true, ↓cd_false, ↓gate_tt, ↓gate_ff, ↓gate_tf, ↓gate_ft, ↓gate_undef, ↓o_bind, ↓stay_v, ↓pop_cons, ↓fin_nil, Option.isNone_none, Option.isNone_some, Bool.not_true, Bool.not_false, Nat.zero_add, decide_true, decide_false, if_true, if_false, Bool.false_eq_true, ↓reduceIte]
    refine Add_spec (a := [120]) (b := [121]) okP (by omega) hd h fun v' w h => ?_
    rw [o_extract, o_extract]
    refine evt_in h fun xb w h => ?_
    have h := h.drop
    by_cases hf : s'.l.length < 64
    · have e4 := add_room (s := s') (t := 1000) (by omega) (by omega) hlast' hf
      rw [e4] at h ⊢
      have t2 : decide ((s.l.length : Int) - (to : Int) < 64) = true := decide_eq_true (by omega)
      have t3 : IntKind.i64.wrap ((s.l.length : Int) - (to : Int)) = (s.l.length : Int) - (to : Int) := i64_of (by omega) (by omega)
      simp only [t0, t2, t3, ↓o_nil, ↓o_field, ↓o_add, ↓o_sub, ↓o_mul, ↓o_lss, ↓o_leq, ↓o_gtr, ↓o_geq, ↓o_not, ↓o_pick, ↓o_eqInt, ↓o_neInt, ↓o_eqBool, ↓o_neBool, ↓o_eqPtr, ↓o_nePtr, ↓o_eqPtr', ↓o_eqSl, ↓o_neSl, ↓o_eqStr, ↓o_neStr, ↓o_len, ↓o_lenS, ↓o_min, ↓o_max, ↓o_extract, ↓o_convInt, ↓cd_true, ↓cd_false, ↓gate_tt, ↓gate_ff, ↓gate_tf, ↓gate_ft, ↓gate_undef, ↓o_bind, ↓stay_v, ↓pop_cons, ↓fin_nil, Option.isNone_none, Option.isNone_some, Bool.not_true, Bool.not_false, Nat.zero_add, decide_true, decide_false, if_true, if_false, Bool.false_eq_true, ↓reduceIte, beq_self_eq_true]
      unfold chI at h
      exact k _ h.drop.drop
    · have e4 := add_full (s := s') (t := 1000) (by omega) (by omega) hlast' (by omega)
      rw [e4] at h ⊢
      have t2 : decide ((s.l.length : Int) - (to : Int) < 64) = false := decide_eq_false (by omega)
      have t3 : IntKind.i64.wrap ((s.l.length : Int) - (to : Int)) = (s.l.length : Int) - (to : Int) := i64_of (by omega) (by omega)
      simp only [t0, t1, t2, t3, ↓o_nil, ↓o_field, ↓o_add, ↓o_sub, ↓o_mul, ↓o_lss, ↓o_leq, ↓o_gtr, ↓o_geq, ↓o_not, ↓o_pick, ↓o_eqInt, ↓o_neInt, ↓o_eqBool, ↓o_neBool, ↓o_eqPtr, ↓o_nePtr, ↓o_eqPtr', ↓o_eqSl, ↓o_neSl, ↓o_eqStr, ↓o_neStr, ↓o_len, ↓o_lenS, ↓o_min, ↓o_max, ↓o_extract, ↓o_convInt, ↓cd_true, ↓cd_false, ↓gate_tt, ↓gate_ff, ↓gate_tf, ↓gate_ft, ↓gate_undef, ↓o_bind, ↓stay_v, ↓pop_cons, ↓fin_nil, Option.isNone_none, Option.isNone_some, Bool.not_true, Bool.not_false, Nat.zero_add, decide_true, decide_false, if_true, if_false, Bool.false_eq_true, ↓reduceIte, beq_self_eq_true]
      unfold chI at h
      exact k _ h.drop.drop
end Go.Proofs.YtjeiojibnmfibaaDoor.Rooms
