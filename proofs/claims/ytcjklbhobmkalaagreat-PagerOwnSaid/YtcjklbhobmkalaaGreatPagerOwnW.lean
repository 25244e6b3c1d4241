/-
  PagerOwn: the walk.
-/
import Derived.Test.YtcjklbhobmkalaaGreatPgrL
set_option linter.all false
set_option maxRecDepth 100000
namespace Go.Proofs.YtcjklbhobmkalaaGreat.Own
open Go Hold Go.ChangeShapes Go.WideShapes Go.ChangeAt Go.RowKit
variable {E : World0} {w : World} {H R : HP} {K : Value → World → Prop}
theorem Own_spec (h : sat E w H) (x : Dd) (ok : OkD H x) (k : ∀ w', sat E w' H → K (.bool true) w') : Calls prog 3 #[.agg (dcells x).toArray] w (Ret K) := by
  refine c3 ?_
  unfold B3
  refine box_sl h fun xb w h => ?_
  have h : sat E w (pts xb (.cells (dcells x).toArray 24 (0, 0)) * H) := h
  refine open_spec (size := 10) (most := 4) h (by omega) (by omega) (by omega) (by omega) fun A q w h => ?_
  have f0 : FarP (newP (newL (10 + 12) 10) 4) [] 10 4 0 := FarP.start (by omega) (by omega) (by omega) (by omega)
  try simp only [↓o_nil, ↓o_field, ↓o_add, ↓o_sub, ↓o_mul, ↓o_lss, ↓o_leq, ↓o_gtr, ↓o_geq, ↓o_not, ↓o_pick, ↓o_eqInt, ↓o_neInt, ↓o_eqBool, ↓o_neBool, ↓o_eqPtr, ↓o_nePtr, ↓o_eqPtr', ↓o_eqSl, ↓o_neSl, ↓o_eqStr, ↓o_neStr, ↓o_len, ↓o_lenS, ↓o_min, ↓o_max, ↓o_extract, ↓o_convInt, ↓cd_true, ↓cd_false, ↓gate_tt, ↓gate_ff, ↓gate_tf, ↓gate_ft, ↓gate_undef, ↓o_bind, ↓stay_v, ↓pop_cons, ↓fin_nil, Option.isNone_none, Option.isNone_some, Bool.not_true, Bool.not_false, Nat.zero_add, decide_true, decide_false, if_true, if_false, Bool.false_eq_true, ↓reduceIte]
  refine live_spec h fun w h => ?_
  try simp only [↓o_nil, ↓o_field, ↓o_add, ↓o_sub, ↓o_mul, ↓o_lss, ↓o_leq, ↓o_gtr, ↓o_geq, ↓o_not, ↓o_pick, ↓o_eqInt, ↓o_neInt, ↓o_eqBool, ↓o_neBool, ↓o_eqPtr, ↓o_nePtr, ↓o_eqPtr', ↓o_eqSl, ↓o_neSl, ↓o_eqStr, ↓o_neStr, ↓o_len, ↓o_lenS, ↓o_min, ↓o_max, ↓o_extract, ↓o_convInt, ↓cd_true, ↓cd_false, ↓gate_tt, ↓gate_ff, ↓gate_tf, ↓gate_ft, ↓gate_undef, ↓o_bind, ↓stay_v, ↓pop_cons, ↓fin_nil, Option.isNone_none, Option.isNone_some, Bool.not_true, Bool.not_false, Nat.zero_add, decide_true, decide_false, if_true, if_false, Bool.false_eq_true, ↓reduceIte]
  refine ld_agg (b := xb) h rfl ?_
  refine bytes_spec h x fun bvv w h => ?_
  refine ld_agg (b := xb) h rfl ?_
  refine first_spec h x (by exact ok.right.right.right) fun w h => ?_
  have hrl := x.row_len
  have h := h.perm (star_left_comm _ _ _)
  refine PWrite_spec f0.ok h (n := x.first) (b := x.row) Rds.own (by omega) fun w h => ?_
  have hw := f0.write x.first x.row
  have hwS := (writeP_S (P := newP (newL (10 + 12) 10) 4) (n := x.first) (b := x.row)).1
  have hpw := page_write (P := newP (newL (10 + 12) 10) 4) (n := x.first) (b := x.row)
  have hpb : writeE (newP (newL (10 + 12) 10) 4) x.first x.row ≠ 0 → lookE (writeP (newP (newL (10 + 12) 10) 4) x.first x.row) x.first = 0 → pageI (writeP (newP (newL (10 + 12) 10) 4) x.first x.row) x.first = zeros := fun h1 h2 => by
    have e : writeP (newP (newL (10 + 12) 10) 4) x.first x.row = newP (newL (10 + 12) 10) 4 := by unfold writeP; rw [if_neg h1]
    rw [e] at h2 ⊢
    have hlo := lookE_of h2
    have hpg : (newP (newL (10 + 12) 10) 4).S.pages = 11 := rfl
    unfold pageI Pg.page
    rw [if_pos h2]
    show (none : Option Bs).getD ((newL (10 + 12) 10).view _) = _
    rw [Option.getD_none]
    exact newL_view (by omega)
  generalize writeE (newP (newL (10 + 12) 10) 4) x.first x.row = e at hpw hpb ⊢
  generalize writeP (newP (newL (10 + 12) 10) 4) x.first x.row = P at h hw hwS hpw hpb
  have hh := hw.h; have hms := hw.ms
  have h := h.perm (star_left_comm _ _ _)
  refine fill_spec h (by omega) 77 fun w ys h => ?_
  refine ld_agg (b := xb) h rfl ?_
  refine first_spec h x (by exact ok.right.right.right) fun w h => ?_
  have h := h.perm (star_left_comm _ _ _)
  refine PReadI_spec hw.ok h (n := x.first) (by omega) (by omega) fun rv w h => ?_
  have hr := hw.read x.first
  have hrs := readP_same (P := P) (n := x.first)
  obtain ⟨g1, g2⟩ := page_same (P := P) (Q := readP P x.first) hrs.1 hrs.2.1 x.first
  have hpl := pageI_len hw.ok (n := x.first)
  have hh2 := hr.h; have hms2 := hr.ms
  generalize readP P x.first = Q at h hr hrs g1 g2 hh2 hms2
  try simp only [↓o_nil, ↓o_field, ↓o_add, ↓o_sub, ↓o_mul, ↓o_lss, ↓o_leq, ↓o_gtr, ↓o_geq, ↓o_not, ↓o_pick, ↓o_eqInt, ↓o_neInt, ↓o_eqBool, ↓o_neBool, ↓o_eqPtr, ↓o_nePtr, ↓o_eqPtr', ↓o_eqSl, ↓o_neSl, ↓o_eqStr, ↓o_neStr, ↓o_len, ↓o_lenS, ↓o_min, ↓o_max, ↓o_extract, ↓o_convInt, ↓cd_true, ↓cd_false, ↓gate_tt, ↓gate_ff, ↓gate_tf, ↓gate_ft, ↓gate_undef, ↓o_bind, ↓stay_v, ↓pop_cons, ↓fin_nil, Option.isNone_none, Option.isNone_some, Bool.not_true, Bool.not_false, Nat.zero_add, decide_true, decide_false, if_true, if_false, Bool.false_eq_true, ↓reduceIte]
  have hdr : ∀ {X Y : HP} {w : World}, sat E w (X * (pgr A Q * (Y * (pts xb (.cells (dcells x).toArray 24 (0, 0)) * H)))) → sat E w H := fun h => h.drop.drop.drop.drop
  by_cases he : e = 0
  · obtain ⟨p1, p2⟩ := hpw he
    simp only [he, p1, ↓o_nil, ↓o_field, ↓o_add, ↓o_sub, ↓o_mul, ↓o_lss, ↓o_leq, ↓o_gtr, ↓o_geq, ↓o_not, ↓o_pick, ↓o_eqInt, ↓o_neInt, ↓o_eqBool, ↓o_neBool, ↓o_eqPtr, ↓o_nePtr, ↓o_eqPtr', ↓o_eqSl, ↓o_neSl, ↓o_eqStr, ↓o_neStr, ↓o_len, ↓o_lenS, ↓o_min, ↓o_max, ↓o_extract, ↓o_convInt, ↓cd_true, ↓cd_false, ↓gate_tt, ↓gate_ff, ↓gate_tf, ↓gate_ft, ↓gate_undef, ↓o_bind, ↓stay_v, ↓pop_cons, ↓fin_nil, Option.isNone_none, Option.isNone_some, Bool.not_true, Bool.not_false, Nat.zero_add, decide_true, decide_false, if_true, if_false, Bool.false_eq_true, ↓reduceIte]
    refine ld_agg (b := xb) h rfl ?_
    refine bytes_spec h x fun bv2 w h => ?_
    rw [p2] at h
    refine SameBytes_spec h (v := rv) (u := bv2) (l := x.row) (m := x.row) Rds.own Rds.own (by omega) fun w h => ?_
    simp only [decide_true, ↓o_nil, ↓o_field, ↓o_add, ↓o_sub, ↓o_mul, ↓o_lss, ↓o_leq, ↓o_gtr, ↓o_geq, ↓o_not, ↓o_pick, ↓o_eqInt, ↓o_neInt, ↓o_eqBool, ↓o_neBool, ↓o_eqPtr, ↓o_nePtr, ↓o_eqPtr', ↓o_eqSl, ↓o_neSl, ↓o_eqStr, ↓o_neStr, ↓o_len, ↓o_lenS, ↓o_min, ↓o_max, ↓o_extract, ↓o_convInt, ↓cd_true, ↓cd_false, ↓gate_tt, ↓gate_ff, ↓gate_tf, ↓gate_ft, ↓gate_undef, ↓o_bind, ↓stay_v, ↓pop_cons, ↓fin_nil, Option.isNone_none, Option.isNone_some, Bool.not_true, Bool.not_false, Nat.zero_add, decide_true, decide_false, if_true, if_false, Bool.false_eq_true, ↓reduceIte]
    have h := h.drop
    refine fill_spec h (by omega) 78 fun w zs h => ?_
    refine ld_agg (b := xb) h rfl ?_
    refine first_spec h x (by exact ok.right.right.right.right) fun w h => ?_
    have h := h.perm (star_left_comm _ _ _)
    refine PReadI_spec hr.ok h (n := x.first) (by omega) (by omega) fun rv2 w h => ?_
    rw [g1, p1]
    rw [g2, p2] at h
    simp only [↓o_nil, ↓o_field, ↓o_add, ↓o_sub, ↓o_mul, ↓o_lss, ↓o_leq, ↓o_gtr, ↓o_geq, ↓o_not, ↓o_pick, ↓o_eqInt, ↓o_neInt, ↓o_eqBool, ↓o_neBool, ↓o_eqPtr, ↓o_nePtr, ↓o_eqPtr', ↓o_eqSl, ↓o_neSl, ↓o_eqStr, ↓o_neStr, ↓o_len, ↓o_lenS, ↓o_min, ↓o_max, ↓o_extract, ↓o_convInt, ↓cd_true, ↓cd_false, ↓gate_tt, ↓gate_ff, ↓gate_tf, ↓gate_ft, ↓gate_undef, ↓o_bind, ↓stay_v, ↓pop_cons, ↓fin_nil, Option.isNone_none, Option.isNone_some, Bool.not_true, Bool.not_false, Nat.zero_add, decide_true, decide_false, if_true, if_false, Bool.false_eq_true, ↓reduceIte]
    refine ld_agg (b := xb) h rfl ?_
    refine bytes_spec h x fun bv3 w h => ?_
    refine SameBytes_spec h (v := rv2) (u := bv3) (l := x.row) (m := x.row) Rds.own Rds.own (by omega) fun w h => ?_
    simp only [decide_true, ↓o_nil, ↓o_field, ↓o_add, ↓o_sub, ↓o_mul, ↓o_lss, ↓o_leq, ↓o_gtr, ↓o_geq, ↓o_not, ↓o_pick, ↓o_eqInt, ↓o_neInt, ↓o_eqBool, ↓o_neBool, ↓o_eqPtr, ↓o_nePtr, ↓o_eqPtr', ↓o_eqSl, ↓o_neSl, ↓o_eqStr, ↓o_neStr, ↓o_len, ↓o_lenS, ↓o_min, ↓o_max, ↓o_extract, ↓o_convInt, ↓cd_true, ↓cd_false, ↓gate_tt, ↓gate_ff, ↓gate_tf, ↓gate_ft, ↓gate_undef, ↓o_bind, ↓stay_v, ↓pop_cons, ↓fin_nil, Option.isNone_none, Option.isNone_some, Bool.not_true, Bool.not_false, Nat.zero_add, decide_true, decide_false, if_true, if_false, Bool.false_eq_true, ↓reduceIte]
    exact k w h.drop.drop.drop.drop.drop.drop
  · simp only [he, ↓o_nil, ↓o_field, ↓o_add, ↓o_sub, ↓o_mul, ↓o_lss, ↓o_leq, ↓o_gtr, ↓o_geq, ↓o_not, ↓o_pick, ↓o_eqInt, ↓o_neInt, ↓o_eqBool, ↓o_neBool, ↓o_eqPtr, ↓o_nePtr, ↓o_eqPtr', ↓o_eqSl, ↓o_neSl, ↓o_eqStr, ↓o_neStr, ↓o_len, ↓o_lenS, ↓o_min, ↓o_max, ↓o_extract, ↓o_convInt, ↓cd_true, ↓cd_false, ↓gate_tt, ↓gate_ff, ↓gate_tf, ↓gate_ft, ↓gate_undef, ↓o_bind, ↓stay_v, ↓pop_cons, ↓fin_nil, Option.isNone_none, Option.isNone_some, Bool.not_true, Bool.not_false, Nat.zero_add, decide_true, decide_false, if_true, if_false, Bool.false_eq_true, ↓reduceIte]
    by_cases hl : lookE P x.first = 0
    · simp only [hl, ↓o_nil, ↓o_field, ↓o_add, ↓o_sub, ↓o_mul, ↓o_lss, ↓o_leq, ↓o_gtr, ↓o_geq, ↓o_not, ↓o_pick, ↓o_eqInt, ↓o_neInt, ↓o_eqBool, ↓o_neBool, ↓o_eqPtr, ↓o_nePtr, ↓o_eqPtr', ↓o_eqSl, ↓o_neSl, ↓o_eqStr, ↓o_neStr, ↓o_len, ↓o_lenS, ↓o_min, ↓o_max, ↓o_extract, ↓o_convInt, ↓cd_true, ↓cd_false, ↓gate_tt, ↓gate_ff, ↓gate_tf, ↓gate_ft, ↓gate_undef, ↓o_bind, ↓stay_v, ↓pop_cons, ↓fin_nil, Option.isNone_none, Option.isNone_some, Bool.not_true, Bool.not_false, Nat.zero_add, decide_true, decide_false, if_true, if_false, Bool.false_eq_true, ↓reduceIte]
      have hz := hpb he hl
      rw [hz] at h
      refine make_sl h rfl (by omega) (by omega) (by omega) (by omega) fun zb w h => ?_
      have e3 : (256 : Int).toNat = 256 := rfl
      rw [e3] at h ⊢
      rw [zeros_map] at h
      have h := osl_of (n := 256) (sz := 1) h (by simp [zeros]) (by omega)
      have hzl : zeros.length = 256 := by simp [zeros]
      refine SameBytes_spec h (v := rv) (u := .slice (some ⟨zb, 0, none⟩) 256 256) (l := zeros) (m := zeros) Rds.own (by rw [hzl]; exact Rds.own) (by omega) fun w h => ?_
      simp only [decide_true, ↓o_nil, ↓o_field, ↓o_add, ↓o_sub, ↓o_mul, ↓o_lss, ↓o_leq, ↓o_gtr, ↓o_geq, ↓o_not, ↓o_pick, ↓o_eqInt, ↓o_neInt, ↓o_eqBool, ↓o_neBool, ↓o_eqPtr, ↓o_nePtr, ↓o_eqPtr', ↓o_eqSl, ↓o_neSl, ↓o_eqStr, ↓o_neStr, ↓o_len, ↓o_lenS, ↓o_min, ↓o_max, ↓o_extract, ↓o_convInt, ↓cd_true, ↓cd_false, ↓gate_tt, ↓gate_ff, ↓gate_tf, ↓gate_ft, ↓gate_undef, ↓o_bind, ↓stay_v, ↓pop_cons, ↓fin_nil, Option.isNone_none, Option.isNone_some, Bool.not_true, Bool.not_false, Nat.zero_add, decide_true, decide_false, if_true, if_false, Bool.false_eq_true, ↓reduceIte]
      exact k w (hdr h.drop)
    · simp only [hl, ↓o_nil, ↓o_field, ↓o_add, ↓o_sub, ↓o_mul, ↓o_lss, ↓o_leq, ↓o_gtr, ↓o_geq, ↓o_not, ↓o_pick, ↓o_eqInt, ↓o_neInt, ↓o_eqBool, ↓o_neBool, ↓o_eqPtr, ↓o_nePtr, ↓o_eqPtr', ↓o_eqSl, ↓o_neSl, ↓o_eqStr, ↓o_neStr, ↓o_len, ↓o_lenS, ↓o_min, ↓o_max, ↓o_extract, ↓o_convInt, ↓cd_true, ↓cd_false, ↓gate_tt, ↓gate_ff, ↓gate_tf, ↓gate_ft, ↓gate_undef, ↓o_bind, ↓stay_v, ↓pop_cons, ↓fin_nil, Option.isNone_none, Option.isNone_some, Bool.not_true, Bool.not_false, Nat.zero_add, decide_true, decide_false, if_true, if_false, Bool.false_eq_true, ↓reduceIte]
      exact k w (hdr h)
end Go.Proofs.YtcjklbhobmkalaaGreat.Own
