/-
  PagerSame: the walk.
-/
import Derived.Test.YtcjklbhobmkalaaGreatPgrL
set_option linter.all false
set_option maxRecDepth 100000
namespace Go.Proofs.YtcjklbhobmkalaaGreat.Same
open Go Hold Go.ChangeShapes Go.WideShapes Go.ChangeAt Go.RowKit
variable {E : World0} {w : World} {H R : HP} {K : Value → World → Prop}
theorem mod_most (x : UInt8) : IntKind.i64.wrap (((IntKind.i64.wrap (x.toNat : Int)).tmod 64) + 1) = ((x.toNat % 64 + 1 : Nat) : Int) := by
  have := x.toNat_lt
  rw [i64_of (n := (x.toNat : Int)) (by omega) (by omega)]
  have : ((x.toNat : Int)).tmod 64 = ((x.toNat % 64 : Nat) : Int) := by rw [Int.tmod_eq_emod_of_nonneg (by omega)]; omega
  rw [this, i64_of (by omega) (by omega)]; omega
theorem Same_spec (h : sat E w H) (xa xb : UInt8) {lv : Value} (l : List Dd) (hl : Rds H lv l.length (l.flatMap dcells)) (hm : l.length ≤ 9223372036854775807) (hs : ∀ x ∈ l, OkD H x)
    (k : ∀ w', sat E w' H → K (.bool true) w') : Calls prog 5 #[bv xa, bv xb, lv] w (Ret K) := by
  obtain ⟨al, cl, rfl, hcl, hl, _⟩ := hl.shape h
  have hdl := dcells_length l
  refine c5 ?_
  unfold B5
  have ra := mod_most xa
  have rb := mod_most xb
  have ha : xa.toNat % 64 + 1 ≤ 64 := by omega
  have hb : xb.toNat % 64 + 1 ≤ 64 := by omega
  have ha1 : 1 ≤ xa.toNat % 64 + 1 := by omega
  have hb1 : 1 ≤ xb.toNat % 64 + 1 := by omega
  simp only [bv, ↓o_nil, ↓o_field, ↓o_add, ↓o_sub, ↓o_mul, ↓o_lss, ↓o_leq, ↓o_gtr, ↓o_geq, ↓o_not, ↓o_pick, ↓o_eqInt, ↓o_neInt, ↓o_eqBool, ↓o_neBool, ↓o_eqPtr, ↓o_nePtr, ↓o_eqPtr', ↓o_eqSl, ↓o_neSl, ↓o_eqStr, ↓o_neStr, ↓o_len, ↓o_lenS, ↓o_min, ↓o_max, ↓o_extract, ↓o_convInt, ↓cd_true, ↓cd_false, ↓gate_tt, ↓gate_ff, ↓gate_tf, ↓gate_ft, ↓gate_undef, ↓o_bind, ↓stay_v, ↓pop_cons, ↓fin_nil, Option.isNone_none, Option.isNone_some, Bool.not_true, Bool.not_false, Nat.zero_add, decide_true, decide_false, if_true, if_false, Bool.false_eq_true, ↓reduceIte]
  simp only [o_rem (show (64 : Int) ≠ 0 by decide), ↓o_nil, ↓o_field, ↓o_add, ↓o_sub, ↓o_mul, ↓o_lss, ↓o_leq, ↓o_gtr, ↓o_geq, ↓o_not, ↓o_pick, ↓o_eqInt, ↓o_neInt, ↓o_eqBool, ↓o_neBool, ↓o_eqPtr, ↓o_nePtr, ↓o_eqPtr', ↓o_eqSl, ↓o_neSl, ↓o_eqStr, ↓o_neStr, ↓o_len, ↓o_lenS, ↓o_min, ↓o_max, ↓o_extract, ↓o_convInt, ↓cd_true, ↓cd_false, ↓gate_tt, ↓gate_ff, ↓gate_tf, ↓gate_ft, ↓gate_undef, ↓o_bind, ↓stay_v, ↓pop_cons, ↓fin_nil, Option.isNone_none, Option.isNone_some, Bool.not_true, Bool.not_false, Nat.zero_add, decide_true, decide_false, if_true, if_false, Bool.false_eq_true, ↓reduceIte, ra, rb]
  generalize xa.toNat % 64 + 1 = ma at ra ha ha1 ⊢
  generalize xb.toNat % 64 + 1 = mb at rb hb hb1 ⊢
  refine open_spec (size := 6) h (by omega) (by omega) ha1 ha fun A q w h => ?_
  have fa : FarP (newP (newL (6 + 12) 6) ma) [] 6 ma 0 := FarP.start (by omega) (by omega) (by omega) (by omega)
  try simp only [↓o_nil, ↓o_field, ↓o_add, ↓o_sub, ↓o_mul, ↓o_lss, ↓o_leq, ↓o_gtr, ↓o_geq, ↓o_not, ↓o_pick, ↓o_eqInt, ↓o_neInt, ↓o_eqBool, ↓o_neBool, ↓o_eqPtr, ↓o_nePtr, ↓o_eqPtr', ↓o_eqSl, ↓o_neSl, ↓o_eqStr, ↓o_neStr, ↓o_len, ↓o_lenS, ↓o_min, ↓o_max, ↓o_extract, ↓o_convInt, ↓cd_true, ↓cd_false, ↓gate_tt, ↓gate_ff, ↓gate_tf, ↓gate_ft, ↓gate_undef, ↓o_bind, ↓stay_v, ↓pop_cons, ↓fin_nil, Option.isNone_none, Option.isNone_some, Bool.not_true, Bool.not_false, Nat.zero_add, decide_true, decide_false, if_true, if_false, Bool.false_eq_true, ↓reduceIte]
  refine open_spec (size := 6) h (by omega) (by omega) hb1 hb fun B q2 w h => ?_
  have fb : FarP (newP (newL (6 + 12) 6) mb) [] 6 mb 0 := FarP.start (by omega) (by omega) (by omega) (by omega)
  try simp only [↓o_nil, ↓o_field, ↓o_add, ↓o_sub, ↓o_mul, ↓o_lss, ↓o_leq, ↓o_gtr, ↓o_geq, ↓o_not, ↓o_pick, ↓o_eqInt, ↓o_neInt, ↓o_eqBool, ↓o_neBool, ↓o_eqPtr, ↓o_nePtr, ↓o_eqPtr', ↓o_eqSl, ↓o_neSl, ↓o_eqStr, ↓o_neStr, ↓o_len, ↓o_lenS, ↓o_min, ↓o_max, ↓o_extract, ↓o_convInt, ↓cd_true, ↓cd_false, ↓gate_tt, ↓gate_ff, ↓gate_tf, ↓gate_ft, ↓gate_undef, ↓o_bind, ↓stay_v, ↓pop_cons, ↓fin_nil, Option.isNone_none, Option.isNone_some, Bool.not_true, Bool.not_false, Nat.zero_add, decide_true, decide_false, if_true, if_false, Bool.false_eq_true, ↓reduceIte]
  refine live_spec h fun w h => ?_
  try simp only [↓o_nil, ↓o_field, ↓o_add, ↓o_sub, ↓o_mul, ↓o_lss, ↓o_leq, ↓o_gtr, ↓o_geq, ↓o_not, ↓o_pick, ↓o_eqInt, ↓o_neInt, ↓o_eqBool, ↓o_neBool, ↓o_eqPtr, ↓o_nePtr, ↓o_eqPtr', ↓o_eqSl, ↓o_neSl, ↓o_eqStr, ↓o_neStr, ↓o_len, ↓o_lenS, ↓o_min, ↓o_max, ↓o_extract, ↓o_convInt, ↓cd_true, ↓cd_false, ↓gate_tt, ↓gate_ff, ↓gate_tf, ↓gate_ft, ↓gate_undef, ↓o_bind, ↓stay_v, ↓pop_cons, ↓fin_nil, Option.isNone_none, Option.isNone_some, Bool.not_true, Bool.not_false, Nat.zero_add, decide_true, decide_false, if_true, if_false, Bool.false_eq_true, ↓reduceIte]
  refine lp_nat (fun q σ w => ∃ (i : Nat) (P Q : Pg) (gs gs' : List (List Int)), σ = [.int .i64 i] ∧ q = 60 - i ∧ i ≤ 60 ∧ FarP P gs 6 ma i ∧ FarP Q gs' 6 mb i ∧ Q.S = P.S ∧ Q.dirty = P.dirty ∧ sat E w (pgr A P * (pgr B Q * H))) 60 ⟨0, _, _, [], [], rfl, rfl, by omega, fa, fb, rfl, rfl, h.perm (star_left_comm _ _ _)⟩ ?_
  clear h
  rintro q σ w again ⟨i, P, Q, gs, gs', rfl, rfl, hi, f, g, hS, hD, h⟩ hag
  try simp only [↓o_nil, ↓o_field, ↓o_add, ↓o_sub, ↓o_mul, ↓o_lss, ↓o_leq, ↓o_gtr, ↓o_geq, ↓o_not, ↓o_pick, ↓o_eqInt, ↓o_neInt, ↓o_eqBool, ↓o_neBool, ↓o_eqPtr, ↓o_nePtr, ↓o_eqPtr', ↓o_eqSl, ↓o_neSl, ↓o_eqStr, ↓o_neStr, ↓o_len, ↓o_lenS, ↓o_min, ↓o_max, ↓o_extract, ↓o_convInt, ↓cd_true, ↓cd_false, ↓gate_tt, ↓gate_ff, ↓gate_tf, ↓gate_ft, ↓gate_undef, ↓o_bind, ↓stay_v, ↓pop_cons, ↓fin_nil, Option.isNone_none, Option.isNone_some, Bool.not_true, Bool.not_false, Nat.zero_add, decide_true, decide_false, if_true, if_false, Bool.false_eq_true, ↓reduceIte]
  have hW := f.w; have hg := f.g; have hh := f.h; have hms := f.ms; have hh2 := g.h; have hms2 := g.ms
  have hW2 := g.w; have hg2 := g.g
  have hlen := f.len; have hlen2 := g.len
  have hend : ∀ w, sat E w (pgr A P * (pgr B Q * H)) → (
    Calls prog 17 #[(.pointer (some ⟨A.q, 0, none⟩))] w (Ret fun t_99 w =>
    Calls prog 23 #[t_99] w (Ret fun t_100 w =>
    Calls prog 24 #[t_100] w (Ret fun t_101 w =>
    Calls prog 17 #[(.pointer (some ⟨B.q, 0, none⟩))] w (Ret fun t_102 w =>
    Calls prog 23 #[t_102] w (Ret fun t_103 w =>
    Calls prog 24 #[t_103] w (Ret fun t_104 w =>
    Calls prog 22 #[t_101, t_104] w (Ret fun t_105 w =>
    K t_105 w)))))))) := by
    intro w h
    refine Log_spec h ?_
    refine PDisk_spec h (by omega) (by omega) fun d w h => ?_
    refine Image_spec h f.ok.i.wf fun v vs w h => ?_
    have h := h.perm (show _ = pgr B Q * (osl 30 1 v P.S.L.length vs * (pers (immAll vs P.S.L) * (dsk d P.S.L P.S.W * (pgr A P * H)))) by ac_rfl)
    refine Log_spec h ?_
    refine PDisk_spec h (by omega) (by omega) fun d2 w h => ?_
    refine Image_spec h g.ok.i.wf fun v2 vs2 w h => ?_
    rw [hS] at h
    refine SameAll_spec h (rdd_of2 h vs P.S.L) (rdd_of2 h vs2 P.S.L) (by omega) (fun x hx => by rw [f.ok.i.wf.l x hx]; omega) fun w h => ?_
    rw [decide_eq_true rfl]
    exact k w h.drop.drop.drop.drop.drop.drop.drop.drop
  by_cases h1 : (i : Int) < (l.length : Int)
  · by_cases h2 : (i : Int) < 60
    · simp only [h1, h2, ↓o_nil, ↓o_field, ↓o_add, ↓o_sub, ↓o_mul, ↓o_lss, ↓o_leq, ↓o_gtr, ↓o_geq, ↓o_not, ↓o_pick, ↓o_eqInt, ↓o_neInt, ↓o_eqBool, ↓o_neBool, ↓o_eqPtr, ↓o_nePtr, ↓o_eqPtr', ↓o_eqSl, ↓o_neSl, ↓o_eqStr, ↓o_neStr, ↓o_len, ↓o_lenS, ↓o_min, ↓o_max, ↓o_extract, ↓o_convInt, ↓cd_true, ↓cd_false, ↓gate_tt, ↓gate_ff, ↓gate_tf, ↓gate_ft, ↓gate_undef, ↓o_bind, ↓stay_v, ↓pop_cons, ↓fin_nil, Option.isNone_none, Option.isNone_some, Bool.not_true, Bool.not_false, Nat.zero_add, decide_true, decide_false, if_true, if_false, Bool.false_eq_true, ↓reduceIte]
      have hlt : i < l.length := by omega
      have hx := hs _ (List.getElem_mem hlt)
      refine jn_cut (fun σ w => ∃ (P' Q' : Pg) (gs gs' : List (List Int)), σ = [] ∧ FarP P' gs 6 ma (i + 1) ∧ FarP Q' gs' 6 mb (i + 1) ∧ Q'.S = P'.S ∧ Q'.dirty = P'.dirty ∧ sat E w (pgr A P' * (pgr B Q' * H))) ?_ ?_
      · intro kk hk
        have hrd : ∀ {Y Z : HP}, Rds (Y * (Z * H)) (.slice al l.length cl) l.length (l.flatMap dcells) := hl.right.right
        obtain ⟨b1, o1, rfl, _⟩ := win_cell (hrd.win h) (j := i * 4) (by omega)
        rw [o_index (by omega) (by omega)]
        simp only [Int.toNat_natCast, ↓o_nil, ↓o_field, ↓o_add, ↓o_sub, ↓o_mul, ↓o_lss, ↓o_leq, ↓o_gtr, ↓o_geq, ↓o_not, ↓o_pick, ↓o_eqInt, ↓o_neInt, ↓o_eqBool, ↓o_neBool, ↓o_eqPtr, ↓o_nePtr, ↓o_eqPtr', ↓o_eqSl, ↓o_neSl, ↓o_eqStr, ↓o_neStr, ↓o_len, ↓o_lenS, ↓o_min, ↓o_max, ↓o_extract, ↓o_convInt, ↓cd_true, ↓cd_false, ↓gate_tt, ↓gate_ff, ↓gate_tf, ↓gate_ft, ↓gate_undef, ↓o_bind, ↓stay_v, ↓pop_cons, ↓fin_nil, Option.isNone_none, Option.isNone_some, Bool.not_true, Bool.not_false, Nat.zero_add, decide_true, decide_false, if_true, if_false, Bool.false_eq_true, ↓reduceIte]
        refine ld_cell ((hrd.win h).cell b1 o1 rfl _ _ (dd_kind hlt)) ?_
        by_cases e0 : l[i].kind = 0
        · simp only [e0, ↓o_nil, ↓o_field, ↓o_add, ↓o_sub, ↓o_mul, ↓o_lss, ↓o_leq, ↓o_gtr, ↓o_geq, ↓o_not, ↓o_pick, ↓o_eqInt, ↓o_neInt, ↓o_eqBool, ↓o_neBool, ↓o_eqPtr, ↓o_nePtr, ↓o_eqPtr', ↓o_eqSl, ↓o_neSl, ↓o_eqStr, ↓o_neStr, ↓o_len, ↓o_lenS, ↓o_min, ↓o_max, ↓o_extract, ↓o_convInt, ↓cd_true, ↓cd_false, ↓gate_tt, ↓gate_ff, ↓gate_tf, ↓gate_ft, ↓gate_undef, ↓o_bind, ↓stay_v, ↓pop_cons, ↓fin_nil, Option.isNone_none, Option.isNone_some, Bool.not_true, Bool.not_false, Nat.zero_add, decide_true, decide_false, if_true, if_false, Bool.false_eq_true, ↓reduceIte]
          rw [o_index (by omega) (by omega)]
          simp only [Int.toNat_natCast, ↓o_nil, ↓o_field, ↓o_add, ↓o_sub, ↓o_mul, ↓o_lss, ↓o_leq, ↓o_gtr, ↓o_geq, ↓o_not, ↓o_pick, ↓o_eqInt, ↓o_neInt, ↓o_eqBool, ↓o_neBool, ↓o_eqPtr, ↓o_nePtr, ↓o_eqPtr', ↓o_eqSl, ↓o_neSl, ↓o_eqStr, ↓o_neStr, ↓o_len, ↓o_lenS, ↓o_min, ↓o_max, ↓o_extract, ↓o_convInt, ↓cd_true, ↓cd_false, ↓gate_tt, ↓gate_ff, ↓gate_tf, ↓gate_ft, ↓gate_undef, ↓o_bind, ↓stay_v, ↓pop_cons, ↓fin_nil, Option.isNone_none, Option.isNone_some, Bool.not_true, Bool.not_false, Nat.zero_add, decide_true, decide_false, if_true, if_false, Bool.false_eq_true, ↓reduceIte]
          refine ld_el h hrd (i * 4) rfl (dcells l[i]) rfl (dd_at hlt) ?_
          refine first_spec h l[i] (by exact hx.right.right) fun w h => ?_
          refine PReadI_spec f.ok h (n := l[i].first) (by omega) (by omega) fun rv w h => ?_
          obtain ⟨r1, r2, _, _⟩ := readP_same (P := P) (n := l[i].first)
          simp only [↓o_nil, ↓o_field, ↓o_add, ↓o_sub, ↓o_mul, ↓o_lss, ↓o_leq, ↓o_gtr, ↓o_geq, ↓o_not, ↓o_pick, ↓o_eqInt, ↓o_neInt, ↓o_eqBool, ↓o_neBool, ↓o_eqPtr, ↓o_nePtr, ↓o_eqPtr', ↓o_eqSl, ↓o_neSl, ↓o_eqStr, ↓o_neStr, ↓o_len, ↓o_lenS, ↓o_min, ↓o_max, ↓o_extract, ↓o_convInt, ↓cd_true, ↓cd_false, ↓gate_tt, ↓gate_ff, ↓gate_tf, ↓gate_ft, ↓gate_undef, ↓o_bind, ↓stay_v, ↓pop_cons, ↓fin_nil, Option.isNone_none, Option.isNone_some, Bool.not_true, Bool.not_false, Nat.zero_add, decide_true, decide_false, if_true, if_false, Bool.false_eq_true, ↓reduceIte]
          rw [o_index (by omega) (by omega)]
          simp only [Int.toNat_natCast, ↓o_nil, ↓o_field, ↓o_add, ↓o_sub, ↓o_mul, ↓o_lss, ↓o_leq, ↓o_gtr, ↓o_geq, ↓o_not, ↓o_pick, ↓o_eqInt, ↓o_neInt, ↓o_eqBool, ↓o_neBool, ↓o_eqPtr, ↓o_nePtr, ↓o_eqPtr', ↓o_eqSl, ↓o_neSl, ↓o_eqStr, ↓o_neStr, ↓o_len, ↓o_lenS, ↓o_min, ↓o_max, ↓o_extract, ↓o_convInt, ↓cd_true, ↓cd_false, ↓gate_tt, ↓gate_ff, ↓gate_tf, ↓gate_ft, ↓gate_undef, ↓o_bind, ↓stay_v, ↓pop_cons, ↓fin_nil, Option.isNone_none, Option.isNone_some, Bool.not_true, Bool.not_false, Nat.zero_add, decide_true, decide_false, if_true, if_false, Bool.false_eq_true, ↓reduceIte]
          refine ld_el h hrd.right (i * 4) rfl (dcells l[i]) rfl (dd_at hlt) ?_
          refine first_spec h l[i] (by exact hx.right.right.right) fun w h => ?_
          have h := h.perm (show _ = pgr B Q * (osl 5 1 rv (pageI P l[i].first).length ((pageI P l[i].first).map bv) * (pgr A (readP P l[i].first) * H)) by ac_rfl)
          refine PReadI_spec g.ok h (n := l[i].first) (by omega) (by omega) fun rv2 w h => ?_
          obtain ⟨s1, s2, _, _⟩ := readP_same (P := Q) (n := l[i].first)
          obtain ⟨p1, p2⟩ := page_same (P := P) (Q := Q) hS hD l[i].first
          rw [p1]
          rw [p2] at h
          simp only [decide_true, ↓o_nil, ↓o_field, ↓o_add, ↓o_sub, ↓o_mul, ↓o_lss, ↓o_leq, ↓o_gtr, ↓o_geq, ↓o_not, ↓o_pick, ↓o_eqInt, ↓o_neInt, ↓o_eqBool, ↓o_neBool, ↓o_eqPtr, ↓o_nePtr, ↓o_eqPtr', ↓o_eqSl, ↓o_neSl, ↓o_eqStr, ↓o_neStr, ↓o_len, ↓o_lenS, ↓o_min, ↓o_max, ↓o_extract, ↓o_convInt, ↓cd_true, ↓cd_false, ↓gate_tt, ↓gate_ff, ↓gate_tf, ↓gate_ft, ↓gate_undef, ↓o_bind, ↓stay_v, ↓pop_cons, ↓fin_nil, Option.isNone_none, Option.isNone_some, Bool.not_true, Bool.not_false, Nat.zero_add, decide_true, decide_false, if_true, if_false, Bool.false_eq_true, ↓reduceIte]
          have hpl := pageI_len f.ok (n := l[i].first)
          refine SameBytes_spec h (v := rv) (u := rv2) (l := pageI P l[i].first) (m := pageI P l[i].first) Rds.own Rds.own (by omega) fun w h => ?_
          simp only [decide_true, ↓o_nil, ↓o_field, ↓o_add, ↓o_sub, ↓o_mul, ↓o_lss, ↓o_leq, ↓o_gtr, ↓o_geq, ↓o_not, ↓o_pick, ↓o_eqInt, ↓o_neInt, ↓o_eqBool, ↓o_neBool, ↓o_eqPtr, ↓o_nePtr, ↓o_eqPtr', ↓o_eqSl, ↓o_neSl, ↓o_eqStr, ↓o_neStr, ↓o_len, ↓o_lenS, ↓o_min, ↓o_max, ↓o_extract, ↓o_convInt, ↓cd_true, ↓cd_false, ↓gate_tt, ↓gate_ff, ↓gate_tf, ↓gate_ft, ↓gate_undef, ↓o_bind, ↓stay_v, ↓pop_cons, ↓fin_nil, Option.isNone_none, Option.isNone_some, Bool.not_true, Bool.not_false, Nat.zero_add, decide_true, decide_false, if_true, if_false, Bool.false_eq_true, ↓reduceIte]
          have h := h.perm (show _ = osl 5 1 rv (pageI P l[i].first).length ((pageI P l[i].first).map bv) * (osl 5 1 rv2 (pageI P l[i].first).length ((pageI P l[i].first).map bv) * (pgr A (readP P l[i].first) * (pgr B (readP Q l[i].first) * H))) by ac_rfl)
          exact hk _ w ⟨_, _, gs, gs', rfl, f.read _, g.read _, by rw [r1, s1]; exact hS, by rw [r2, s2]; exact hD, h.drop.drop⟩
        · by_cases e1 : l[i].kind = 1
          · simp only [e0, e1, ↓o_nil, ↓o_field, ↓o_add, ↓o_sub, ↓o_mul, ↓o_lss, ↓o_leq, ↓o_gtr, ↓o_geq, ↓o_not, ↓o_pick, ↓o_eqInt, ↓o_neInt, ↓o_eqBool, ↓o_neBool, ↓o_eqPtr, ↓o_nePtr, ↓o_eqPtr', ↓o_eqSl, ↓o_neSl, ↓o_eqStr, ↓o_neStr, ↓o_len, ↓o_lenS, ↓o_min, ↓o_max, ↓o_extract, ↓o_convInt, ↓cd_true, ↓cd_false, ↓gate_tt, ↓gate_ff, ↓gate_tf, ↓gate_ft, ↓gate_undef, ↓o_bind, ↓stay_v, ↓pop_cons, ↓fin_nil, Option.isNone_none, Option.isNone_some, Bool.not_true, Bool.not_false, Nat.zero_add, decide_true, decide_false, if_true, if_false, Bool.false_eq_true, ↓reduceIte, show ¬ (1 : Int) = 0 by decide]
            obtain ⟨wE, wD⟩ := write_same hS hD l[i].first l[i].row
            refine wr_el2 f.ok h (R := pgr B Q * H) hl.right (fun x hx => (hs x hx).right) hlt hm fun w h => ?_
            refine wr_el2 g.ok (h.perm (star_left_comm _ _ _)) (R := pgr A (writeP P l[i].first l[i].row) * H) hl.right (fun x hx => (hs x hx).right) hlt hm fun w h => ?_
            exact hk _ w ⟨_, _, gs, gs', rfl, f.write _ _, g.write _ _, by rw [writeP_S.1, writeP_S.1]; exact hS, wD, h.perm (star_left_comm _ _ _)⟩
          · by_cases e2 : l[i].kind = 2
            · simp only [e0, e1, e2, ↓o_nil, ↓o_field, ↓o_add, ↓o_sub, ↓o_mul, ↓o_lss, ↓o_leq, ↓o_gtr, ↓o_geq, ↓o_not, ↓o_pick, ↓o_eqInt, ↓o_neInt, ↓o_eqBool, ↓o_neBool, ↓o_eqPtr, ↓o_nePtr, ↓o_eqPtr', ↓o_eqSl, ↓o_neSl, ↓o_eqStr, ↓o_neStr, ↓o_len, ↓o_lenS, ↓o_min, ↓o_max, ↓o_extract, ↓o_convInt, ↓cd_true, ↓cd_false, ↓gate_tt, ↓gate_ff, ↓gate_tf, ↓gate_ft, ↓gate_undef, ↓o_bind, ↓stay_v, ↓pop_cons, ↓fin_nil, Option.isNone_none, Option.isNone_some, Bool.not_true, Bool.not_false, Nat.zero_add, decide_true, decide_false, if_true, if_false, Bool.false_eq_true, ↓reduceIte, show ¬ (2 : Int) = 0 by decide, show ¬ (2 : Int) = 1 by decide]
              refine PCommit_spec f.ok h (by omega) (by omega) fun w h => ?_
              refine PCommit_spec g.ok (h.perm (star_left_comm _ _ _)) (by omega) (by omega) fun w h => ?_
              obtain ⟨c1, c2, _⟩ := com_same hS hD
              obtain ⟨gs1, f'⟩ := f.com
              obtain ⟨gs2, g'⟩ := g.com
              exact hk _ w ⟨_, _, gs1, gs2, rfl, f', g', c1, c2, h.perm (star_left_comm _ _ _)⟩
            · by_cases e3 : l[i].kind = 3
              · simp only [e0, e1, e2, e3, ↓o_nil, ↓o_field, ↓o_add, ↓o_sub, ↓o_mul, ↓o_lss, ↓o_leq, ↓o_gtr, ↓o_geq, ↓o_not, ↓o_pick, ↓o_eqInt, ↓o_neInt, ↓o_eqBool, ↓o_neBool, ↓o_eqPtr, ↓o_nePtr, ↓o_eqPtr', ↓o_eqSl, ↓o_neSl, ↓o_eqStr, ↓o_neStr, ↓o_len, ↓o_lenS, ↓o_min, ↓o_max, ↓o_extract, ↓o_convInt, ↓cd_true, ↓cd_false, ↓gate_tt, ↓gate_ff, ↓gate_tf, ↓gate_ft, ↓gate_undef, ↓o_bind, ↓stay_v, ↓pop_cons, ↓fin_nil, Option.isNone_none, Option.isNone_some, Bool.not_true, Bool.not_false, Nat.zero_add, decide_true, decide_false, if_true, if_false, Bool.false_eq_true, ↓reduceIte, show ¬ (3 : Int) = 0 by decide, show ¬ (3 : Int) = 1 by decide, show ¬ (3 : Int) = 2 by decide]
                refine Abort_spec h fun w h => ?_
                refine Abort_spec (h.perm (star_left_comm _ _ _)) fun w h => ?_
                exact hk _ w ⟨_, _, gs, gs', rfl, f.abort, g.abort, hS, rfl, h.perm (star_left_comm _ _ _)⟩
              · simp only [e0, e1, e2, e3, ↓o_nil, ↓o_field, ↓o_add, ↓o_sub, ↓o_mul, ↓o_lss, ↓o_leq, ↓o_gtr, ↓o_geq, ↓o_not, ↓o_pick, ↓o_eqInt, ↓o_neInt, ↓o_eqBool, ↓o_neBool, ↓o_eqPtr, ↓o_nePtr, ↓o_eqPtr', ↓o_eqSl, ↓o_neSl, ↓o_eqStr, ↓o_neStr, ↓o_len, ↓o_lenS, ↓o_min, ↓o_max, ↓o_extract, ↓o_convInt, ↓cd_true, ↓cd_false, ↓gate_tt, ↓gate_ff, ↓gate_tf, ↓gate_ft, ↓gate_undef, ↓o_bind, ↓stay_v, ↓pop_cons, ↓fin_nil, Option.isNone_none, Option.isNone_some, Bool.not_true, Bool.not_false, Nat.zero_add, decide_true, decide_false, if_true, if_false, Bool.false_eq_true, ↓reduceIte]
                exact hk _ w ⟨_, _, gs, gs', rfl, f.more (by omega), g.more (by omega), hS, hD, h⟩
      · rintro σ w ⟨P', Q', gs, gs', rfl, f', g', hS', hD', h⟩
        have hrl := f'.ok.rl; have hrl2 := g'.ok.rl
        have hmo := f'.most; have hmo2 := g'.most
        try simp only [↓o_nil, ↓o_field, ↓o_add, ↓o_sub, ↓o_mul, ↓o_lss, ↓o_leq, ↓o_gtr, ↓o_geq, ↓o_not, ↓o_pick, ↓o_eqInt, ↓o_neInt, ↓o_eqBool, ↓o_neBool, ↓o_eqPtr, ↓o_nePtr, ↓o_eqPtr', ↓o_eqSl, ↓o_neSl, ↓o_eqStr, ↓o_neStr, ↓o_len, ↓o_lenS, ↓o_min, ↓o_max, ↓o_extract, ↓o_convInt, ↓cd_true, ↓cd_false, ↓gate_tt, ↓gate_ff, ↓gate_tf, ↓gate_ft, ↓gate_undef, ↓o_bind, ↓stay_v, ↓pop_cons, ↓fin_nil, Option.isNone_none, Option.isNone_some, Bool.not_true, Bool.not_false, Nat.zero_add, decide_true, decide_false, if_true, if_false, Bool.false_eq_true, ↓reduceIte]
        refine Cached_spec (by omega) h fun cv w h => ?_
        obtain ⟨ac, cc, rfl, _, _, _⟩ := osl_shape h
        have hn1 : ¬ (ma : Int) < (P'.row.length : Int) := by omega
        simp only [o_rem (show (64 : Int) ≠ 0 by decide), ↓o_nil, ↓o_field, ↓o_add, ↓o_sub, ↓o_mul, ↓o_lss, ↓o_leq, ↓o_gtr, ↓o_geq, ↓o_not, ↓o_pick, ↓o_eqInt, ↓o_neInt, ↓o_eqBool, ↓o_neBool, ↓o_eqPtr, ↓o_nePtr, ↓o_eqPtr', ↓o_eqSl, ↓o_neSl, ↓o_eqStr, ↓o_neStr, ↓o_len, ↓o_lenS, ↓o_min, ↓o_max, ↓o_extract, ↓o_convInt, ↓cd_true, ↓cd_false, ↓gate_tt, ↓gate_ff, ↓gate_tf, ↓gate_ft, ↓gate_undef, ↓o_bind, ↓stay_v, ↓pop_cons, ↓fin_nil, Option.isNone_none, Option.isNone_some, Bool.not_true, Bool.not_false, Nat.zero_add, decide_true, decide_false, if_true, if_false, Bool.false_eq_true, ↓reduceIte, ra, hn1]
        have h := h.drop.perm (star_left_comm _ _ _)
        refine Cached_spec (by omega) h fun cv w h => ?_
        obtain ⟨ac, cc, rfl, _, _, _⟩ := osl_shape h
        have hn2 : ¬ (mb : Int) < (Q'.row.length : Int) := by omega
        simp only [o_rem (show (64 : Int) ≠ 0 by decide), ↓o_nil, ↓o_field, ↓o_add, ↓o_sub, ↓o_mul, ↓o_lss, ↓o_leq, ↓o_gtr, ↓o_geq, ↓o_not, ↓o_pick, ↓o_eqInt, ↓o_neInt, ↓o_eqBool, ↓o_neBool, ↓o_eqPtr, ↓o_nePtr, ↓o_eqPtr', ↓o_eqSl, ↓o_neSl, ↓o_eqStr, ↓o_neStr, ↓o_len, ↓o_lenS, ↓o_min, ↓o_max, ↓o_extract, ↓o_convInt, ↓cd_true, ↓cd_false, ↓gate_tt, ↓gate_ff, ↓gate_tf, ↓gate_ft, ↓gate_undef, ↓o_bind, ↓stay_v, ↓pop_cons, ↓fin_nil, Option.isNone_none, Option.isNone_some, Bool.not_true, Bool.not_false, Nat.zero_add, decide_true, decide_false, if_true, if_false, Bool.false_eq_true, ↓reduceIte, rb, hn2]
        have h := h.drop.perm (star_left_comm _ _ _)
        rw [i64_of (n := (i : Int) + 1) (by omega) (by omega)]
        exact hag (60 - (i + 1)) _ _ (by omega) ⟨i + 1, P', Q', gs, gs', rfl, rfl, by omega, f', g', hS', hD', h⟩
    · simp only [h1, h2, ↓o_nil, ↓o_field, ↓o_add, ↓o_sub, ↓o_mul, ↓o_lss, ↓o_leq, ↓o_gtr, ↓o_geq, ↓o_not, ↓o_pick, ↓o_eqInt, ↓o_neInt, ↓o_eqBool, ↓o_neBool, ↓o_eqPtr, ↓o_nePtr, ↓o_eqPtr', ↓o_eqSl, ↓o_neSl, ↓o_eqStr, ↓o_neStr, ↓o_len, ↓o_lenS, ↓o_min, ↓o_max, ↓o_extract, ↓o_convInt, ↓cd_true, ↓cd_false, ↓gate_tt, ↓gate_ff, ↓gate_tf, ↓gate_ft, ↓gate_undef, ↓o_bind, ↓stay_v, ↓pop_cons, ↓fin_nil, Option.isNone_none, Option.isNone_some, Bool.not_true, Bool.not_false, Nat.zero_add, decide_true, decide_false, if_true, if_false, Bool.false_eq_true, ↓reduceIte]
      exact hend w h
  · simp only [h1, ↓o_nil, ↓o_field, ↓o_add, ↓o_sub, ↓o_mul, ↓o_lss, ↓o_leq, ↓o_gtr, ↓o_geq, ↓o_not, ↓o_pick, ↓o_eqInt, ↓o_neInt, ↓o_eqBool, ↓o_neBool, ↓o_eqPtr, ↓o_nePtr, ↓o_eqPtr', ↓o_eqSl, ↓o_neSl, ↓o_eqStr, ↓o_neStr, ↓o_len, ↓o_lenS, ↓o_min, ↓o_max, ↓o_extract, ↓o_convInt, ↓cd_true, ↓cd_false, ↓gate_tt, ↓gate_ff, ↓gate_tf, ↓gate_ft, ↓gate_undef, ↓o_bind, ↓stay_v, ↓pop_cons, ↓fin_nil, Option.isNone_none, Option.isNone_some, Bool.not_true, Bool.not_false, Nat.zero_add, decide_true, decide_false, if_true, if_false, Bool.false_eq_true, ↓reduceIte]
    exact hend w h
end Go.Proofs.YtcjklbhobmkalaaGreat.Same
