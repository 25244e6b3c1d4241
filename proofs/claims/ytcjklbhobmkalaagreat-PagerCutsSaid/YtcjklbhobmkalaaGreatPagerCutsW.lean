/-
  PagerCuts: the walk.
-/
import Derived.Test.YtcjklbhobmkalaaGreatPgrL
set_option linter.all false
set_option maxRecDepth 100000
namespace Go.Proofs.YtcjklbhobmkalaaGreat.Cuts
open Go Hold Go.ChangeShapes Go.WideShapes Go.ChangeAt Go.RowKit
variable {E : World0} {w : World} {H R : HP} {K : Value → World → Prop}
theorem mod_size (x : UInt8) : IntKind.i64.wrap (((IntKind.i64.wrap (x.toNat : Int)).tmod 12) + 2) = ((x.toNat % 12 + 2 : Nat) : Int) := by
  have := x.toNat_lt
  rw [i64_of (n := (x.toNat : Int)) (by omega) (by omega)]
  have : ((x.toNat : Int)).tmod 12 = ((x.toNat % 12 : Nat) : Int) := by rw [Int.tmod_eq_emod_of_nonneg (by omega)]; omega
  rw [this, i64_of (by omega) (by omega)]; omega
theorem all_ok {U : Lg} {g : List (List Int)} (iU : LInv U g) : U.all.length = U.pages ∧ ∀ x ∈ U.all, x.length ≤ 140737488355328 := by
  refine ⟨by simp [Lg.all], fun x hx => ?_⟩
  obtain ⟨n, hn, rfl⟩ := List.mem_map.1 hx
  have hn := List.mem_range.1 hn
  rw [view_len iU hn]; omega
theorem Cuts_end (kk : Fin 65536) {A : Ad} {P : Pg} {gs : List (List Int)} {N i : Nat} (f : FarP P gs N 4 i) (hN2 : 2 ≤ N) (hN : N ≤ 13) (hi : i ≤ 60) (h : sat E w (pgr A P * H)) (k : ∀ w', sat E w' H → K (.bool true) w') : (
    Calls prog 17 #[(.pointer (some ⟨A.q, 0, none⟩))] w (Ret fun t_70 w =>
    Calls prog 16 #[t_70] w (Ret fun t_71 w =>
    Calls prog 17 #[(.pointer (some ⟨A.q, 0, none⟩))] w (Ret fun t_72 w =>
    Calls prog 23 #[t_72] w (Ret fun t_73 w =>
    Calls prog 26 #[t_73] w (Ret fun t_74 w =>
    Calls prog 18 #[(.pointer (some ⟨A.q, 0, none⟩))] w (Ret fun t_75 w =>
    Calls prog 17 #[(.pointer (some ⟨A.q, 0, none⟩))] w (Ret fun t_76 w =>
    Calls prog 16 #[t_76] w (Ret fun t_77 w =>
    Calls prog 17 #[(.pointer (some ⟨A.q, 0, none⟩))] w (Ret fun t_78 w =>
    Calls prog 23 #[t_78] w (Ret fun t_79 w =>
    pvv prog (convert 53 3 (.int .u16 (kk.val : Int))) w fun t_80 w =>
    Calls prog 26 #[t_79] w (Ret fun t_81 w =>
    pvv prog (binOp .sub 3 t_81 t_74) w fun t_82 w =>
    pvv prog (binOp .add 3 t_82 (.int .i64 1)) w fun t_83 w =>
    pvv prog (binOp .rem 3 t_80 t_83) w fun t_84 w =>
    pvv prog (binOp .add 3 t_74 t_84) w fun t_85 w =>
    Calls prog 27 #[t_79, t_85] w (Ret fun t_86 w =>
    pvv prog (Instr.extract t_86 0) w fun t_87 w =>
    pvv prog (Instr.extract t_86 1) w fun t_88 w =>
    Calls prog 28 #[t_87, (.int .i64 N)] w (Ret fun t_89 w =>
    pvv prog (Instr.extract t_89 0) w fun t_90 w =>
    pvv prog (Instr.extract t_89 1) w fun t_91 w =>
    pvv prog (oEq .neq 32 (.tmp 136) (.const (.int .i64 0)) t_88 (.int .i64 0)) w fun t_92 w =>
    gate (some (t_92, false)) (fun K => K t_91 w) w fun t_93 w =>
    gate (some (t_92, false)) (fun K => pvv prog (oEq .neq 32 (.tmp 139) (.const (.int .i64 0)) t_93 (.int .i64 0)) w K) w fun t_94 w =>
    pv prog (oPick t_92 (.bool true) t_94) w fun t_95 w =>
    cd t_95 (
      K (.bool false) w) <|
    Calls prog 16 #[t_90] w (Ret fun t_96 w =>
    pvv prog (oEq .eql 32 (.tmp 144) (.const (.int .i64 0)) t_75 (.int .i64 0)) w fun t_97 w =>
    gate (some (t_97, false)) (fun K => K t_71 w) w fun t_98 w =>
    gate (some (t_97, false)) (fun K => K t_77 w) w fun t_99 w =>
    gate (some (t_97, false)) (fun K => Calls prog 22 #[t_98, t_99] w (Ret K)) w fun t_100 w =>
    pv prog (oPick t_97 (.bool true) t_100) w fun t_101 w =>
    gate (some (t_101, true)) (fun K => K t_96 w) w fun t_102 w =>
    gate (some (t_101, true)) (fun K => K t_71 w) w fun t_103 w =>
    gate (some (t_101, true)) (fun K => Calls prog 22 #[t_102, t_103] w (Ret K)) w fun t_104 w =>
    gate (some (t_101, true)) (fun K => K t_104 w) w fun t_105 w =>
    gate (some (t_105, false)) (fun K => K t_96 w) w fun t_106 w =>
    gate (some (t_105, false)) (fun K => K t_77 w) w fun t_107 w =>
    gate (some (t_105, false)) (fun K => Calls prog 22 #[t_106, t_107] w (Ret K)) w fun t_108 w =>
    gate (some (t_101, true)) (fun K => pv prog (oPick t_105 (.bool true) t_108) w K) w fun t_109 w =>
    pv prog (oPick t_101 t_109 (.bool false)) w fun t_110 w =>
    K t_110 w))))))))))))))) := by
  have hW := f.w; have hg := f.g; have hh := f.h; have hms := f.ms
  have hlen := f.len; have hsz := f.size
  have hpg := f.pages
  have hgr := com_grown f.ok.i (ps := P.dirty) f.ok.dl
  have g1 := hgr.w1; have g2 := hgr.w2; have g3 := hgr.l; have g4 := hgr.g
  obtain ⟨gs', f'⟩ := f.com
  have hca := com_all f.ok.i (ps := P.dirty)
  refine Log_spec h ?_
  refine PAll_spec f.ok.i h (by omega) fun v vs w h => ?_
  have h : sat E w (pgr A P * (osl 30 1 v P.S.all.length vs * (pers (immAll vs P.S.all) * H))) := h.perm (by ac_rfl)
  refine Log_spec h ?_
  refine PDisk_spec h (by omega) (by omega) fun d w h => ?_
  refine Count_spec h ?_
  have h := h.drop
  refine PCommit_spec f.ok h (by omega) (by omega) fun w h => ?_
  have hcS : (comP P).S = comS P.S P.dirty := rfl
  have hpg' := f'.pages
  have hlen' := f'.len; have hW' := f'.w; have hg' := f'.g; have hsz' := f'.size
  refine Log_spec h ?_
  refine PAll_spec f'.ok.i h (by omega) fun v2 vs2 w h => ?_
  rw [hcS] at h
  have h : sat E w (pgr A (comP P) * (osl 30 1 v2 (comS P.S P.dirty).all.length vs2 * (pers (immAll vs2 (comS P.S P.dirty).all) * (osl 30 1 v P.S.all.length vs * (pers (immAll vs P.S.all) * H))))) := h.perm (by ac_rfl)
  refine Log_spec h ?_
  refine PDisk_spec h (by omega) (by rw [hcS]; omega) fun d2 w h => ?_
  rw [hcS] at h
  try simp only [↓o_nil, ↓o_field, ↓o_add, ↓o_sub, ↓o_mul, ↓o_lss, ↓o_leq, ↓o_gtr, ↓o_geq, ↓o_not, ↓o_pick, ↓o_eqInt, ↓o_neInt, ↓o_eqBool, ↓o_neBool, ↓o_eqPtr, ↓o_nePtr, ↓o_eqPtr', ↓o_eqSl, ↓o_neSl, ↓o_eqStr, ↓o_neStr, ↓o_len, ↓o_lenS, ↓o_min, ↓o_max, ↓o_extract, ↓o_convInt, ↓cd_true, ↓cd_false, ↓gate_tt, ↓gate_ff, ↓gate_tf, ↓gate_ft, ↓gate_undef, ↓o_bind, ↓stay_v, ↓pop_cons, ↓fin_nil, Option.isNone_none, Option.isNone_some, Bool.not_true, Bool.not_false, Nat.zero_add, decide_true, decide_false, if_true, if_false, Bool.false_eq_true, ↓reduceIte]
  have hkk := kk.2
  rw [i64_of (n := (kk.1 : Int)) (by omega) (by omega)]
  refine Count_spec h ?_
  have wfT : Wf (comS P.S P.dirty).L (comS P.S P.dirty).W := f'.ok.i.wf
  have iT : LInv (comS P.S P.dirty) gs' := f'.ok.i
  have hcut := fun k h1 h2 => cut_com f.ok.i f.ok.dl (ps := P.dirty) (k := k) h1 h2
  rw [hcS] at hpg' hlen' hW' hg' hsz'
  generalize comS P.S P.dirty = T at h hgr g1 g2 g3 g4 hca wfT iT hcut hpg' hlen' hW' hg' hsz' ⊢
  try simp only [↓o_nil, ↓o_field, ↓o_add, ↓o_sub, ↓o_mul, ↓o_lss, ↓o_leq, ↓o_gtr, ↓o_geq, ↓o_not, ↓o_pick, ↓o_eqInt, ↓o_neInt, ↓o_eqBool, ↓o_neBool, ↓o_eqPtr, ↓o_nePtr, ↓o_eqPtr', ↓o_eqSl, ↓o_neSl, ↓o_eqStr, ↓o_neStr, ↓o_len, ↓o_lenS, ↓o_min, ↓o_max, ↓o_extract, ↓o_convInt, ↓cd_true, ↓cd_false, ↓gate_tt, ↓gate_ff, ↓gate_tf, ↓gate_ft, ↓gate_undef, ↓o_bind, ↓stay_v, ↓pop_cons, ↓fin_nil, Option.isNone_none, Option.isNone_some, Bool.not_true, Bool.not_false, Nat.zero_add, decide_true, decide_false, if_true, if_false, Bool.false_eq_true, ↓reduceIte]
  rw [i64_of (n := (T.W.length : Int) - (P.S.W.length : Int)) (by omega) (by omega), i64_of (n := (T.W.length : Int) - (P.S.W.length : Int) + 1) (by omega) (by omega), o_rem (by omega)]
  have hmod : ((kk.1 : Nat) : Int).tmod ((T.W.length : Int) - (P.S.W.length : Int) + 1) = ((kk.1 % (T.W.length - P.S.W.length + 1) : Nat) : Int) := by
    rw [show (T.W.length : Int) - (P.S.W.length : Int) + 1 = ((T.W.length - P.S.W.length + 1 : Nat) : Int) by omega, Int.tmod_eq_emod_of_nonneg (by omega)]; omega
  rw [hmod]
  have hlt2 : kk.1 % (T.W.length - P.S.W.length + 1) < T.W.length - P.S.W.length + 1 := Nat.mod_lt _ (by omega)
  generalize kk.1 % (T.W.length - P.S.W.length + 1) = z at hlt2 ⊢
  try simp only [↓o_nil, ↓o_field, ↓o_add, ↓o_sub, ↓o_mul, ↓o_lss, ↓o_leq, ↓o_gtr, ↓o_geq, ↓o_not, ↓o_pick, ↓o_eqInt, ↓o_neInt, ↓o_eqBool, ↓o_neBool, ↓o_eqPtr, ↓o_nePtr, ↓o_eqPtr', ↓o_eqSl, ↓o_neSl, ↓o_eqStr, ↓o_neStr, ↓o_len, ↓o_lenS, ↓o_min, ↓o_max, ↓o_extract, ↓o_convInt, ↓cd_true, ↓cd_false, ↓gate_tt, ↓gate_ff, ↓gate_tf, ↓gate_ft, ↓gate_undef, ↓o_bind, ↓stay_v, ↓pop_cons, ↓fin_nil, Option.isNone_none, Option.isNone_some, Bool.not_true, Bool.not_false, Nat.zero_add, decide_true, decide_false, if_true, if_false, Bool.false_eq_true, ↓reduceIte]
  rw [i64_of (n := (P.S.W.length : Int) + (z : Int)) (by omega) (by omega), show (P.S.W.length : Int) + (z : Int) = ((P.S.W.length + z : Nat) : Int) by omega]
  obtain ⟨C, gs2, hC⟩ := hcut (P.S.W.length + z) (by omega) (by omega)
  have hCs := hC.size; have hCg := hC.g
  have hCl : C.L.length = N + 12 := by rw [hC.l]; unfold hist; rw [undo_length]; omega
  have hCp : C.pages = 11 := by unfold Lg.pages; omega
  refine Cut_spec h wfT (by omega) (n := P.S.W.length + z) (by omega) fun d3 w h => ?_
  try simp only [↓o_nil, ↓o_field, ↓o_add, ↓o_sub, ↓o_mul, ↓o_lss, ↓o_leq, ↓o_gtr, ↓o_geq, ↓o_not, ↓o_pick, ↓o_eqInt, ↓o_neInt, ↓o_eqBool, ↓o_neBool, ↓o_eqPtr, ↓o_nePtr, ↓o_eqPtr', ↓o_eqSl, ↓o_neSl, ↓o_eqStr, ↓o_neStr, ↓o_len, ↓o_lenS, ↓o_min, ↓o_max, ↓o_extract, ↓o_convInt, ↓cd_true, ↓cd_false, ↓gate_tt, ↓gate_ff, ↓gate_tf, ↓gate_ft, ↓gate_undef, ↓o_bind, ↓stay_v, ↓pop_cons, ↓fin_nil, Option.isNone_none, Option.isNone_some, Bool.not_true, Bool.not_false, Nat.zero_add, decide_true, decide_false, if_true, if_false, Bool.false_eq_true, ↓reduceIte]
  have h : sat E w (dsk d3 C.L [] * (dsk d2 T.L T.W * (pgr A (comP P) * (osl 30 1 v2 T.all.length vs2 * (pers (immAll vs2 T.all) * (osl 30 1 v P.S.all.length vs * (pers (immAll vs P.S.all) * H))))))) := by
    rw [hC.l]; exact h
  have hNC : N = C.size := by omega
  have wfC : Wf C.L [] := by have := hC.i.wf; rw [hC.w] at this; exact this
  rw [show (Value.int .i64 (N : Int)) = Value.int .i64 (C.size : Int) by rw [hNC]]
  refine Open_spec (S := C) hC.i hC.w (by omega) (dd := d3) (W := []) h wfC fun p2 b2 c2 w h => ?_
  try simp only [↓o_nil, ↓o_field, ↓o_add, ↓o_sub, ↓o_mul, ↓o_lss, ↓o_leq, ↓o_gtr, ↓o_geq, ↓o_not, ↓o_pick, ↓o_eqInt, ↓o_neInt, ↓o_eqBool, ↓o_neBool, ↓o_eqPtr, ↓o_nePtr, ↓o_eqPtr', ↓o_eqSl, ↓o_neSl, ↓o_eqStr, ↓o_neStr, ↓o_len, ↓o_lenS, ↓o_min, ↓o_max, ↓o_extract, ↓o_convInt, ↓cd_true, ↓cd_false, ↓gate_tt, ↓gate_ff, ↓gate_tf, ↓gate_ft, ↓gate_undef, ↓o_bind, ↓stay_v, ↓pop_cons, ↓fin_nil, Option.isNone_none, Option.isNone_some, Bool.not_true, Bool.not_false, Nat.zero_add, decide_true, decide_false, if_true, if_false, Bool.false_eq_true, ↓reduceIte]
  refine All_spec hC.i h (by omega) fun v3 vs3 w h => ?_
  have h : sat E w (osl 30 1 v3 C.all.length vs3 * (osl 30 1 v2 T.all.length vs2 * (osl 30 1 v P.S.all.length vs * (pers (immAll vs3 C.all) * (pers (immAll vs2 T.all) * (pers (immAll vs P.S.all) * (lgI p2 b2 c2 C (dsk d3 C.L [] * (dsk d2 T.L T.W * (pgr A (comP P) * H)))))))))) := by
    unfold lgI at h ⊢
    exact h.perm (by ac_rfl)
  have o1 := all_ok f.ok.i
  have o2 := all_ok iT
  have o3 := all_ok hC.i
  have hdone : ∀ w, sat E w (osl 30 1 v3 C.all.length vs3 * (osl 30 1 v2 T.all.length vs2 * (osl 30 1 v P.S.all.length vs * (pers (immAll vs3 C.all) * (pers (immAll vs2 T.all) * (pers (immAll vs P.S.all) * (lgI p2 b2 c2 C (dsk d3 C.L [] * (dsk d2 T.L T.W * (pgr A (comP P) * H)))))))))) → K (.bool true) w := fun w h => by
    unfold lgI at h
    exact k w h.drop.drop.drop.drop.drop.drop.drop.drop.drop.drop.drop.drop
  by_cases he : comE P.S P.dirty = 0
  · simp only [he, ↓o_nil, ↓o_field, ↓o_add, ↓o_sub, ↓o_mul, ↓o_lss, ↓o_leq, ↓o_gtr, ↓o_geq, ↓o_not, ↓o_pick, ↓o_eqInt, ↓o_neInt, ↓o_eqBool, ↓o_neBool, ↓o_eqPtr, ↓o_nePtr, ↓o_eqPtr', ↓o_eqSl, ↓o_neSl, ↓o_eqStr, ↓o_neStr, ↓o_len, ↓o_lenS, ↓o_min, ↓o_max, ↓o_extract, ↓o_convInt, ↓cd_true, ↓cd_false, ↓gate_tt, ↓gate_ff, ↓gate_tf, ↓gate_ft, ↓gate_undef, ↓o_bind, ↓stay_v, ↓pop_cons, ↓fin_nil, Option.isNone_none, Option.isNone_some, Bool.not_true, Bool.not_false, Nat.zero_add, decide_true, decide_false, if_true, if_false, Bool.false_eq_true, ↓reduceIte]
    refine SameAll_spec h (rdd_of2 h vs3 C.all) (rdd_of2 h vs P.S.all) (by omega) o3.2 fun w h => ?_
    by_cases ha : C.all = P.S.all
    · rw [decide_eq_true ha]
      simp only [↓o_nil, ↓o_field, ↓o_add, ↓o_sub, ↓o_mul, ↓o_lss, ↓o_leq, ↓o_gtr, ↓o_geq, ↓o_not, ↓o_pick, ↓o_eqInt, ↓o_neInt, ↓o_eqBool, ↓o_neBool, ↓o_eqPtr, ↓o_nePtr, ↓o_eqPtr', ↓o_eqSl, ↓o_neSl, ↓o_eqStr, ↓o_neStr, ↓o_len, ↓o_lenS, ↓o_min, ↓o_max, ↓o_extract, ↓o_convInt, ↓cd_true, ↓cd_false, ↓gate_tt, ↓gate_ff, ↓gate_tf, ↓gate_ft, ↓gate_undef, ↓o_bind, ↓stay_v, ↓pop_cons, ↓fin_nil, Option.isNone_none, Option.isNone_some, Bool.not_true, Bool.not_false, Nat.zero_add, decide_true, decide_false, if_true, if_false, Bool.false_eq_true, ↓reduceIte]
      exact hdone w h
    · rw [decide_eq_false ha]
      simp only [↓o_nil, ↓o_field, ↓o_add, ↓o_sub, ↓o_mul, ↓o_lss, ↓o_leq, ↓o_gtr, ↓o_geq, ↓o_not, ↓o_pick, ↓o_eqInt, ↓o_neInt, ↓o_eqBool, ↓o_neBool, ↓o_eqPtr, ↓o_nePtr, ↓o_eqPtr', ↓o_eqSl, ↓o_neSl, ↓o_eqStr, ↓o_neStr, ↓o_len, ↓o_lenS, ↓o_min, ↓o_max, ↓o_extract, ↓o_convInt, ↓cd_true, ↓cd_false, ↓gate_tt, ↓gate_ff, ↓gate_tf, ↓gate_ft, ↓gate_undef, ↓o_bind, ↓stay_v, ↓pop_cons, ↓fin_nil, Option.isNone_none, Option.isNone_some, Bool.not_true, Bool.not_false, Nat.zero_add, decide_true, decide_false, if_true, if_false, Bool.false_eq_true, ↓reduceIte]
      have ht : C.all = T.all := by rcases hC.all with e | e; exact absurd e ha; exact e
      refine SameAll_spec h (rdd_of2 h vs3 C.all) (rdd_of2 h vs2 T.all) (by omega) o3.2 fun w h => ?_
      rw [decide_eq_true ht]
      try simp only [↓o_nil, ↓o_field, ↓o_add, ↓o_sub, ↓o_mul, ↓o_lss, ↓o_leq, ↓o_gtr, ↓o_geq, ↓o_not, ↓o_pick, ↓o_eqInt, ↓o_neInt, ↓o_eqBool, ↓o_neBool, ↓o_eqPtr, ↓o_nePtr, ↓o_eqPtr', ↓o_eqSl, ↓o_neSl, ↓o_eqStr, ↓o_neStr, ↓o_len, ↓o_lenS, ↓o_min, ↓o_max, ↓o_extract, ↓o_convInt, ↓cd_true, ↓cd_false, ↓gate_tt, ↓gate_ff, ↓gate_tf, ↓gate_ft, ↓gate_undef, ↓o_bind, ↓stay_v, ↓pop_cons, ↓fin_nil, Option.isNone_none, Option.isNone_some, Bool.not_true, Bool.not_false, Nat.zero_add, decide_true, decide_false, if_true, if_false, Bool.false_eq_true, ↓reduceIte]
      exact hdone w h
  · simp only [he, ↓o_nil, ↓o_field, ↓o_add, ↓o_sub, ↓o_mul, ↓o_lss, ↓o_leq, ↓o_gtr, ↓o_geq, ↓o_not, ↓o_pick, ↓o_eqInt, ↓o_neInt, ↓o_eqBool, ↓o_neBool, ↓o_eqPtr, ↓o_nePtr, ↓o_eqPtr', ↓o_eqSl, ↓o_neSl, ↓o_eqStr, ↓o_neStr, ↓o_len, ↓o_lenS, ↓o_min, ↓o_max, ↓o_extract, ↓o_convInt, ↓cd_true, ↓cd_false, ↓gate_tt, ↓gate_ff, ↓gate_tf, ↓gate_ft, ↓gate_undef, ↓o_bind, ↓stay_v, ↓pop_cons, ↓fin_nil, Option.isNone_none, Option.isNone_some, Bool.not_true, Bool.not_false, Nat.zero_add, decide_true, decide_false, if_true, if_false, Bool.false_eq_true, ↓reduceIte]
    refine SameAll_spec h (rdd_of2 h vs P.S.all) (rdd_of2 h vs2 T.all) (by omega) o1.2 fun w h => ?_
    rw [decide_eq_true (hca he).symm]
    simp only [↓o_nil, ↓o_field, ↓o_add, ↓o_sub, ↓o_mul, ↓o_lss, ↓o_leq, ↓o_gtr, ↓o_geq, ↓o_not, ↓o_pick, ↓o_eqInt, ↓o_neInt, ↓o_eqBool, ↓o_neBool, ↓o_eqPtr, ↓o_nePtr, ↓o_eqPtr', ↓o_eqSl, ↓o_neSl, ↓o_eqStr, ↓o_neStr, ↓o_len, ↓o_lenS, ↓o_min, ↓o_max, ↓o_extract, ↓o_convInt, ↓cd_true, ↓cd_false, ↓gate_tt, ↓gate_ff, ↓gate_tf, ↓gate_ft, ↓gate_undef, ↓o_bind, ↓stay_v, ↓pop_cons, ↓fin_nil, Option.isNone_none, Option.isNone_some, Bool.not_true, Bool.not_false, Nat.zero_add, decide_true, decide_false, if_true, if_false, Bool.false_eq_true, ↓reduceIte]
    refine SameAll_spec h (rdd_of2 h vs3 C.all) (rdd_of2 h vs P.S.all) (by omega) o3.2 fun w h => ?_
    by_cases ha : C.all = P.S.all
    · rw [decide_eq_true ha]
      simp only [↓o_nil, ↓o_field, ↓o_add, ↓o_sub, ↓o_mul, ↓o_lss, ↓o_leq, ↓o_gtr, ↓o_geq, ↓o_not, ↓o_pick, ↓o_eqInt, ↓o_neInt, ↓o_eqBool, ↓o_neBool, ↓o_eqPtr, ↓o_nePtr, ↓o_eqPtr', ↓o_eqSl, ↓o_neSl, ↓o_eqStr, ↓o_neStr, ↓o_len, ↓o_lenS, ↓o_min, ↓o_max, ↓o_extract, ↓o_convInt, ↓cd_true, ↓cd_false, ↓gate_tt, ↓gate_ff, ↓gate_tf, ↓gate_ft, ↓gate_undef, ↓o_bind, ↓stay_v, ↓pop_cons, ↓fin_nil, Option.isNone_none, Option.isNone_some, Bool.not_true, Bool.not_false, Nat.zero_add, decide_true, decide_false, if_true, if_false, Bool.false_eq_true, ↓reduceIte]
      exact hdone w h
    · rw [decide_eq_false ha]
      simp only [↓o_nil, ↓o_field, ↓o_add, ↓o_sub, ↓o_mul, ↓o_lss, ↓o_leq, ↓o_gtr, ↓o_geq, ↓o_not, ↓o_pick, ↓o_eqInt, ↓o_neInt, ↓o_eqBool, ↓o_neBool, ↓o_eqPtr, ↓o_nePtr, ↓o_eqPtr', ↓o_eqSl, ↓o_neSl, ↓o_eqStr, ↓o_neStr, ↓o_len, ↓o_lenS, ↓o_min, ↓o_max, ↓o_extract, ↓o_convInt, ↓cd_true, ↓cd_false, ↓gate_tt, ↓gate_ff, ↓gate_tf, ↓gate_ft, ↓gate_undef, ↓o_bind, ↓stay_v, ↓pop_cons, ↓fin_nil, Option.isNone_none, Option.isNone_some, Bool.not_true, Bool.not_false, Nat.zero_add, decide_true, decide_false, if_true, if_false, Bool.false_eq_true, ↓reduceIte]
      have ht : C.all = T.all := by rcases hC.all with e | e; exact absurd e ha; exact e
      refine SameAll_spec h (rdd_of2 h vs3 C.all) (rdd_of2 h vs2 T.all) (by omega) o3.2 fun w h => ?_
      rw [decide_eq_true ht]
      try simp only [↓o_nil, ↓o_field, ↓o_add, ↓o_sub, ↓o_mul, ↓o_lss, ↓o_leq, ↓o_gtr, ↓o_geq, ↓o_not, ↓o_pick, ↓o_eqInt, ↓o_neInt, ↓o_eqBool, ↓o_neBool, ↓o_eqPtr, ↓o_nePtr, ↓o_eqPtr', ↓o_eqSl, ↓o_neSl, ↓o_eqStr, ↓o_neStr, ↓o_len, ↓o_lenS, ↓o_min, ↓o_max, ↓o_extract, ↓o_convInt, ↓cd_true, ↓cd_false, ↓gate_tt, ↓gate_ff, ↓gate_tf, ↓gate_ft, ↓gate_undef, ↓o_bind, ↓stay_v, ↓pop_cons, ↓fin_nil, Option.isNone_none, Option.isNone_some, Bool.not_true, Bool.not_false, Nat.zero_add, decide_true, decide_false, if_true, if_false, Bool.false_eq_true, ↓reduceIte]
      exact hdone w h
theorem Cuts_step {A : Ad} {P : Pg} {gs : List (List Int)} {N i : Nat} (f : FarP P gs N 4 i) (hi : i ≤ 60) (h : sat E w (pgr A P * H)) {al : Option Addr} {cl : Nat} {l : List Dd} (hl : Rds H (.slice al l.length cl) l.length (l.flatMap dcells)) (hm : l.length ≤ 9223372036854775807) (hs : ∀ x ∈ l, OkD H x)
    (hlt : i < l.length) {k_20 : List Value → World → Prop} (hk : ∀ P' gs' w, FarP P' gs' N 4 (i + 1) → sat E w (pgr A P' * H) → k_20 [] w) : (
      pvv prog (Instr.indexAt 39 (.slice al l.length cl) (.int .i64 i)) w fun t_21 w =>
      pvv prog (Instr.fieldAt 24 t_21 0) w fun t_22 w =>
      ldv prog (Instr.loadAt 3 t_22) w fun t_23 w =>
      pvv prog (oEq .eql 3 (.tmp 53) (.const (.int .i64 0)) t_23 (.int .i64 0)) w fun t_24 w =>
      gate (some (t_24, false)) (fun K => K (.slice al l.length cl) w) w fun t_25 w =>
      gate (some (t_24, false)) (fun K => K (.int .i64 i) w) w fun t_26 w =>
      gate (some (t_24, false)) (fun K => pvv prog (Instr.indexAt 39 t_25 t_26) w K) w fun t_27 w =>
      gate (some (t_24, false)) (fun K => pvv prog (Instr.fieldAt 24 t_27 0) w K) w fun t_28 w =>
      gate (some (t_24, false)) (fun K => ldv prog (Instr.loadAt 3 t_28) w K) w fun t_29 w =>
      gate (some (t_24, false)) (fun K => pvv prog (oEq .eql 3 (.tmp 60) (.const (.int .i64 1)) t_29 (.int .i64 1)) w K) w fun t_30 w =>
      pv prog (oPick t_24 (.bool true) t_30) w fun t_31 w =>
      gate (some (t_31, false)) (fun K => K (.slice al l.length cl) w) w fun t_32 w =>
      gate (some (t_31, false)) (fun K => K (.int .i64 i) w) w fun t_33 w =>
      gate (some (t_31, false)) (fun K => pvv prog (Instr.indexAt 39 t_32 t_33) w K) w fun t_34 w =>
      gate (some (t_31, false)) (fun K => pvv prog (Instr.fieldAt 24 t_34 0) w K) w fun t_35 w =>
      gate (some (t_31, false)) (fun K => ldv prog (Instr.loadAt 3 t_35) w K) w fun t_36 w =>
      gate (some (t_31, false)) (fun K => pvv prog (oEq .eql 3 (.tmp 68) (.const (.int .i64 2)) t_36 (.int .i64 2)) w K) w fun t_37 w =>
      gate (some (t_31, false)) (fun K => K t_37 w) w fun t_38 w =>
      gate (some (t_38, true)) (fun K => K (.int .i64 i) w) w fun t_39 w =>
      gate (some (t_38, true)) (fun K => pvv prog (binOp .add 3 t_39 (.int .i64 1)) w K) w fun t_40 w =>
      gate (some (t_38, true)) (fun K => K (.slice al l.length cl) w) w fun t_41 w =>
      gate (some (t_38, true)) (fun K => pv prog (oBi .len #[39] 3 #[false] #[t_41]) w K) w fun t_42 w =>
      gate (some (t_38, true)) (fun K => pvv prog (binOp .lss 3 t_40 t_42) w K) w fun t_43 w =>
      gate (some (t_31, false)) (fun K => pv prog (oPick t_38 t_43 (.bool false)) w K) w fun t_44 w =>
      pv prog (oPick t_31 (.bool true) t_44) w fun t_45 w =>
      cd t_45 (
        pvv prog (Instr.indexAt 39 (.slice al l.length cl) (.int .i64 i)) w fun t_46 w =>
        ldv prog (Instr.loadAt 24 t_46) w fun t_47 w =>
        efv prog (Instr.alloc 24 true (.tuple #[])) w fun d_48 w =>
        efu prog (Instr.storeAt 24 d_48 t_47) w fun u_49 w =>
        pvv prog (Instr.fieldAt 24 d_48 0) w fun t_50 w =>
        ldv prog (Instr.loadAt 3 t_50) w fun t_51 w =>
        pvv prog (oEq .eql 3 (.tmp 83) (.const (.int .i64 0)) t_51 (.int .i64 0)) w fun t_52 w =>
        cd t_52 (
          ldv prog (Instr.loadAt 24 d_48) w fun t_53 w =>
          Calls prog 13 #[t_53] w (Ret fun t_54 w =>
          Calls prog 14 #[(.pointer (some ⟨A.q, 0, none⟩)), t_54] w (Ret fun t_55 w =>
          k_20 [] w))) <|
        pvv prog (Instr.fieldAt 24 d_48 0) w fun t_56 w =>
        ldv prog (Instr.loadAt 3 t_56) w fun t_57 w =>
        pvv prog (oEq .eql 3 (.tmp 90) (.const (.int .i64 1)) t_57 (.int .i64 1)) w fun t_58 w =>
        cd t_58 (
          dr w fun w =>
          bindS (vN (Instr.loadAt 24 d_48)) fun m_60 => ldv prog (Instr.loadAt 24 d_48) w fun t_59 w =>
          bindS (vN (Instr.loadAt 24 d_48)) fun m_62 => ldv prog (Instr.loadAt 24 d_48) w fun t_61 w =>
          Calls prog 13 #[t_59] w (Ret fun t_63 w => stay prog none m_62 t_61 w <| 
          Calls prog 11 #[t_61] w (Ret fun t_64 w => stay prog none m_60 t_59 w <| 
          Calls prog 12 #[(.pointer (some ⟨A.q, 0, none⟩)), t_63, t_64] w (Ret fun t_65 w => stay prog none m_62 t_61 w <| stay prog none m_60 t_59 w <| 
          k_20 [] w)))) <|
        Calls prog 18 #[(.pointer (some ⟨A.q, 0, none⟩))] w (Ret fun t_69 w =>
        k_20 [] w)) <|
      k_20 [] w) := by
  have hdl := dcells_length l
  have hx := hs _ (List.getElem_mem hlt)
  have hW := f.w; have hg := f.g; have hh := f.h; have hms := f.ms
  have hlen := f.len; have hsz := f.size
  have hpg := f.pages
  have hrd : ∀ {Y : HP}, Rds (Y * H) (.slice al l.length cl) l.length (l.flatMap dcells) := hl.right
  obtain ⟨b1, o1, rfl, _⟩ := win_cell (hrd.win h) (j := i * 4) (by omega)
  have hsame := f.more (k := i + 1) (by omega)
  have hone : ∀ y ∈ dcells l[i], y.oneCell' = true := by
    obtain ⟨_, _, e, _⟩ := hx.rd.shape h.drop
    intro y hy
    simp only [dcells, List.mem_cons, List.not_mem_nil, or_false] at hy
    rcases hy with rfl | rfl | rfl | rfl
    · rfl
    · rw [e]; rfl
    · rfl
    · rfl
  rw [o_index (by omega) (by omega)]
  simp only [Int.toNat_natCast, ↓o_nil, ↓o_field, ↓o_add, ↓o_sub, ↓o_mul, ↓o_lss, ↓o_leq, ↓o_gtr, ↓o_geq, ↓o_not, ↓o_pick, ↓o_eqInt, ↓o_neInt, ↓o_eqBool, ↓o_neBool, ↓o_eqPtr, ↓o_nePtr, ↓o_eqPtr', ↓o_eqSl, ↓o_neSl, ↓o_eqStr, ↓o_neStr, ↓o_len, ↓o_lenS, ↓o_min, ↓o_max, ↓o_extract, ↓o_convInt, ↓cd_true, ↓cd_false, ↓gate_tt, ↓gate_ff, ↓gate_tf, ↓gate_ft, ↓gate_undef, ↓o_bind, ↓stay_v, ↓pop_cons, ↓fin_nil, Option.isNone_none, Option.isNone_some, Bool.not_true, Bool.not_false, Nat.zero_add, decide_true, decide_false, if_true, if_false, Bool.false_eq_true, ↓reduceIte]
  refine ld_cell ((hrd.win h).cell b1 o1 rfl _ _ (dd_kind hlt)) ?_
  by_cases e0 : l[i].kind = 0
  · simp only [e0, ↓o_nil, ↓o_field, ↓o_add, ↓o_sub, ↓o_mul, ↓o_lss, ↓o_leq, ↓o_gtr, ↓o_geq, ↓o_not, ↓o_pick, ↓o_eqInt, ↓o_neInt, ↓o_eqBool, ↓o_neBool, ↓o_eqPtr, ↓o_nePtr, ↓o_eqPtr', ↓o_eqSl, ↓o_neSl, ↓o_eqStr, ↓o_neStr, ↓o_len, ↓o_lenS, ↓o_min, ↓o_max, ↓o_extract, ↓o_convInt, ↓cd_true, ↓cd_false, ↓gate_tt, ↓gate_ff, ↓gate_tf, ↓gate_ft, ↓gate_undef, ↓o_bind, ↓stay_v, ↓pop_cons, ↓fin_nil, Option.isNone_none, Option.isNone_some, Bool.not_true, Bool.not_false, Nat.zero_add, decide_true, decide_false, if_true, if_false, Bool.false_eq_true, ↓reduceIte]
    rw [o_index (by omega) (by omega)]
    simp only [Int.toNat_natCast, ↓o_nil, ↓o_field, ↓o_add, ↓o_sub, ↓o_mul, ↓o_lss, ↓o_leq, ↓o_gtr, ↓o_geq, ↓o_not, ↓o_pick, ↓o_eqInt, ↓o_neInt, ↓o_eqBool, ↓o_neBool, ↓o_eqPtr, ↓o_nePtr, ↓o_eqPtr', ↓o_eqSl, ↓o_neSl, ↓o_eqStr, ↓o_neStr, ↓o_len, ↓o_lenS, ↓o_min, ↓o_max, ↓o_extract, ↓o_convInt, ↓cd_true, ↓cd_false, ↓gate_tt, ↓gate_ff, ↓gate_tf, ↓gate_ft, ↓gate_undef, ↓o_bind, ↓stay_v, ↓pop_cons, ↓fin_nil, Option.isNone_none, Option.isNone_some, Bool.not_true, Bool.not_false, Nat.zero_add, decide_true, decide_false, if_true, if_false, Bool.false_eq_true, ↓reduceIte]
    refine ld_el h hrd (i * 4) rfl (dcells l[i]) rfl (dd_at hlt) ?_
    refine alloc_sl h fun db w h => ?_
    refine store_all (b := db) h rfl rfl hone fun w h => ?_
    simp only [↓o_nil, ↓o_field, ↓o_add, ↓o_sub, ↓o_mul, ↓o_lss, ↓o_leq, ↓o_gtr, ↓o_geq, ↓o_not, ↓o_pick, ↓o_eqInt, ↓o_neInt, ↓o_eqBool, ↓o_neBool, ↓o_eqPtr, ↓o_nePtr, ↓o_eqPtr', ↓o_eqSl, ↓o_neSl, ↓o_eqStr, ↓o_neStr, ↓o_len, ↓o_lenS, ↓o_min, ↓o_max, ↓o_extract, ↓o_convInt, ↓cd_true, ↓cd_false, ↓gate_tt, ↓gate_ff, ↓gate_tf, ↓gate_ft, ↓gate_undef, ↓o_bind, ↓stay_v, ↓pop_cons, ↓fin_nil, Option.isNone_none, Option.isNone_some, Bool.not_true, Bool.not_false, Nat.zero_add, decide_true, decide_false, if_true, if_false, Bool.false_eq_true, ↓reduceIte]
    refine ld_in (b := db) (v := .int .i64 l[i].kind) h rfl ?_
    simp only [e0, ↓o_nil, ↓o_field, ↓o_add, ↓o_sub, ↓o_mul, ↓o_lss, ↓o_leq, ↓o_gtr, ↓o_geq, ↓o_not, ↓o_pick, ↓o_eqInt, ↓o_neInt, ↓o_eqBool, ↓o_neBool, ↓o_eqPtr, ↓o_nePtr, ↓o_eqPtr', ↓o_eqSl, ↓o_neSl, ↓o_eqStr, ↓o_neStr, ↓o_len, ↓o_lenS, ↓o_min, ↓o_max, ↓o_extract, ↓o_convInt, ↓cd_true, ↓cd_false, ↓gate_tt, ↓gate_ff, ↓gate_tf, ↓gate_ft, ↓gate_undef, ↓o_bind, ↓stay_v, ↓pop_cons, ↓fin_nil, Option.isNone_none, Option.isNone_some, Bool.not_true, Bool.not_false, Nat.zero_add, decide_true, decide_false, if_true, if_false, Bool.false_eq_true, ↓reduceIte]
    refine ld_agg (b := db) h rfl ?_
    refine first_spec h l[i] (by exact hx.right.right) fun w h => ?_
    refine PReadI_spec f.ok (h.perm (star_left_comm _ _ _)) (n := l[i].first) (by omega) (by omega) fun rv w h => ?_
    exact hk _ gs w (f.read _) ((h.drop.perm (star_left_comm _ _ _)).drop)
  · simp only [e0, ↓o_nil, ↓o_field, ↓o_add, ↓o_sub, ↓o_mul, ↓o_lss, ↓o_leq, ↓o_gtr, ↓o_geq, ↓o_not, ↓o_pick, ↓o_eqInt, ↓o_neInt, ↓o_eqBool, ↓o_neBool, ↓o_eqPtr, ↓o_nePtr, ↓o_eqPtr', ↓o_eqSl, ↓o_neSl, ↓o_eqStr, ↓o_neStr, ↓o_len, ↓o_lenS, ↓o_min, ↓o_max, ↓o_extract, ↓o_convInt, ↓cd_true, ↓cd_false, ↓gate_tt, ↓gate_ff, ↓gate_tf, ↓gate_ft, ↓gate_undef, ↓o_bind, ↓stay_v, ↓pop_cons, ↓fin_nil, Option.isNone_none, Option.isNone_some, Bool.not_true, Bool.not_false, Nat.zero_add, decide_true, decide_false, if_true, if_false, Bool.false_eq_true, ↓reduceIte]
    rw [o_index (by omega) (by omega)]
    simp only [Int.toNat_natCast, ↓o_nil, ↓o_field, ↓o_add, ↓o_sub, ↓o_mul, ↓o_lss, ↓o_leq, ↓o_gtr, ↓o_geq, ↓o_not, ↓o_pick, ↓o_eqInt, ↓o_neInt, ↓o_eqBool, ↓o_neBool, ↓o_eqPtr, ↓o_nePtr, ↓o_eqPtr', ↓o_eqSl, ↓o_neSl, ↓o_eqStr, ↓o_neStr, ↓o_len, ↓o_lenS, ↓o_min, ↓o_max, ↓o_extract, ↓o_convInt, ↓cd_true, ↓cd_false, ↓gate_tt, ↓gate_ff, ↓gate_tf, ↓gate_ft, ↓gate_undef, ↓o_bind, ↓stay_v, ↓pop_cons, ↓fin_nil, Option.isNone_none, Option.isNone_some, Bool.not_true, Bool.not_false, Nat.zero_add, decide_true, decide_false, if_true, if_false, Bool.false_eq_true, ↓reduceIte]
    refine ld_cell ((hrd.win h).cell b1 o1 rfl _ _ (dd_kind hlt)) ?_
    by_cases e1 : l[i].kind = 1
    · simp only [e1, ↓o_nil, ↓o_field, ↓o_add, ↓o_sub, ↓o_mul, ↓o_lss, ↓o_leq, ↓o_gtr, ↓o_geq, ↓o_not, ↓o_pick, ↓o_eqInt, ↓o_neInt, ↓o_eqBool, ↓o_neBool, ↓o_eqPtr, ↓o_nePtr, ↓o_eqPtr', ↓o_eqSl, ↓o_neSl, ↓o_eqStr, ↓o_neStr, ↓o_len, ↓o_lenS, ↓o_min, ↓o_max, ↓o_extract, ↓o_convInt, ↓cd_true, ↓cd_false, ↓gate_tt, ↓gate_ff, ↓gate_tf, ↓gate_ft, ↓gate_undef, ↓o_bind, ↓stay_v, ↓pop_cons, ↓fin_nil, Option.isNone_none, Option.isNone_some, Bool.not_true, Bool.not_false, Nat.zero_add, decide_true, decide_false, if_true, if_false, Bool.false_eq_true, ↓reduceIte]
      rw [o_index (by omega) (by omega)]
      simp only [Int.toNat_natCast, ↓o_nil, ↓o_field, ↓o_add, ↓o_sub, ↓o_mul, ↓o_lss, ↓o_leq, ↓o_gtr, ↓o_geq, ↓o_not, ↓o_pick, ↓o_eqInt, ↓o_neInt, ↓o_eqBool, ↓o_neBool, ↓o_eqPtr, ↓o_nePtr, ↓o_eqPtr', ↓o_eqSl, ↓o_neSl, ↓o_eqStr, ↓o_neStr, ↓o_len, ↓o_lenS, ↓o_min, ↓o_max, ↓o_extract, ↓o_convInt, ↓cd_true, ↓cd_false, ↓gate_tt, ↓gate_ff, ↓gate_tf, ↓gate_ft, ↓gate_undef, ↓o_bind, ↓stay_v, ↓pop_cons, ↓fin_nil, Option.isNone_none, Option.isNone_some, Bool.not_true, Bool.not_false, Nat.zero_add, decide_true, decide_false, if_true, if_false, Bool.false_eq_true, ↓reduceIte]
      refine ld_el h hrd (i * 4) rfl (dcells l[i]) rfl (dd_at hlt) ?_
      refine alloc_sl h fun db w h => ?_
      refine store_all (b := db) h rfl rfl hone fun w h => ?_
      simp only [↓o_nil, ↓o_field, ↓o_add, ↓o_sub, ↓o_mul, ↓o_lss, ↓o_leq, ↓o_gtr, ↓o_geq, ↓o_not, ↓o_pick, ↓o_eqInt, ↓o_neInt, ↓o_eqBool, ↓o_neBool, ↓o_eqPtr, ↓o_nePtr, ↓o_eqPtr', ↓o_eqSl, ↓o_neSl, ↓o_eqStr, ↓o_neStr, ↓o_len, ↓o_lenS, ↓o_min, ↓o_max, ↓o_extract, ↓o_convInt, ↓cd_true, ↓cd_false, ↓gate_tt, ↓gate_ff, ↓gate_tf, ↓gate_ft, ↓gate_undef, ↓o_bind, ↓stay_v, ↓pop_cons, ↓fin_nil, Option.isNone_none, Option.isNone_some, Bool.not_true, Bool.not_false, Nat.zero_add, decide_true, decide_false, if_true, if_false, Bool.false_eq_true, ↓reduceIte]
      refine ld_in (b := db) (v := .int .i64 l[i].kind) h rfl ?_
      simp only [e0, e1, ↓o_nil, ↓o_field, ↓o_add, ↓o_sub, ↓o_mul, ↓o_lss, ↓o_leq, ↓o_gtr, ↓o_geq, ↓o_not, ↓o_pick, ↓o_eqInt, ↓o_neInt, ↓o_eqBool, ↓o_neBool, ↓o_eqPtr, ↓o_nePtr, ↓o_eqPtr', ↓o_eqSl, ↓o_neSl, ↓o_eqStr, ↓o_neStr, ↓o_len, ↓o_lenS, ↓o_min, ↓o_max, ↓o_extract, ↓o_convInt, ↓cd_true, ↓cd_false, ↓gate_tt, ↓gate_ff, ↓gate_tf, ↓gate_ft, ↓gate_undef, ↓o_bind, ↓stay_v, ↓pop_cons, ↓fin_nil, Option.isNone_none, Option.isNone_some, Bool.not_true, Bool.not_false, Nat.zero_add, decide_true, decide_false, if_true, if_false, Bool.false_eq_true, ↓reduceIte, show ¬ (1 : Int) = 0 by decide]
      refine ld_in (b := db) (v := .int .i64 l[i].kind) h rfl ?_
      simp only [e1, ↓o_nil, ↓o_field, ↓o_add, ↓o_sub, ↓o_mul, ↓o_lss, ↓o_leq, ↓o_gtr, ↓o_geq, ↓o_not, ↓o_pick, ↓o_eqInt, ↓o_neInt, ↓o_eqBool, ↓o_neBool, ↓o_eqPtr, ↓o_nePtr, ↓o_eqPtr', ↓o_eqSl, ↓o_neSl, ↓o_eqStr, ↓o_neStr, ↓o_len, ↓o_lenS, ↓o_min, ↓o_max, ↓o_extract, ↓o_convInt, ↓cd_true, ↓cd_false, ↓gate_tt, ↓gate_ff, ↓gate_tf, ↓gate_ft, ↓gate_undef, ↓o_bind, ↓stay_v, ↓pop_cons, ↓fin_nil, Option.isNone_none, Option.isNone_some, Bool.not_true, Bool.not_false, Nat.zero_add, decide_true, decide_false, if_true, if_false, Bool.false_eq_true, ↓reduceIte]
      refine dr_sl h fun w h _ => ?_
      refine ld_agg (b := db) h rfl (ld_agg (b := db) h rfl ?_)
      refine first_spec h l[i] (by exact hx.right.right) fun w h => ?_
      try simp only [stay_v]
      refine st_agg (b := db) h rfl ?_
      refine bytes_spec h l[i] fun bv0 w h => ?_
      try simp only [stay_v]
      refine st_agg (b := db) h rfl ?_
      have h := h.perm (show _ = pgr A P * (osl 5 1 bv0 l[i].row.length (l[i].row.map bv) * (pts db (.cells (dcells l[i]).toArray 24 (0, 0)) * H)) by ac_rfl)
      refine PWrite_spec f.ok h (b := l[i].row) Rds.own (by have := l[i].row_len; omega) fun w h => ?_
      try simp only [stay_v]
      refine st_agg (b := db) h rfl (st_agg (b := db) h rfl ?_)
      exact hk _ gs w (f.write _ _) (((h.perm (star_left_comm _ _ _)).drop.perm (star_left_comm _ _ _)).drop)
    · simp only [e1, ↓o_nil, ↓o_field, ↓o_add, ↓o_sub, ↓o_mul, ↓o_lss, ↓o_leq, ↓o_gtr, ↓o_geq, ↓o_not, ↓o_pick, ↓o_eqInt, ↓o_neInt, ↓o_eqBool, ↓o_neBool, ↓o_eqPtr, ↓o_nePtr, ↓o_eqPtr', ↓o_eqSl, ↓o_neSl, ↓o_eqStr, ↓o_neStr, ↓o_len, ↓o_lenS, ↓o_min, ↓o_max, ↓o_extract, ↓o_convInt, ↓cd_true, ↓cd_false, ↓gate_tt, ↓gate_ff, ↓gate_tf, ↓gate_ft, ↓gate_undef, ↓o_bind, ↓stay_v, ↓pop_cons, ↓fin_nil, Option.isNone_none, Option.isNone_some, Bool.not_true, Bool.not_false, Nat.zero_add, decide_true, decide_false, if_true, if_false, Bool.false_eq_true, ↓reduceIte]
      rw [o_index (by omega) (by omega)]
      simp only [Int.toNat_natCast, ↓o_nil, ↓o_field, ↓o_add, ↓o_sub, ↓o_mul, ↓o_lss, ↓o_leq, ↓o_gtr, ↓o_geq, ↓o_not, ↓o_pick, ↓o_eqInt, ↓o_neInt, ↓o_eqBool, ↓o_neBool, ↓o_eqPtr, ↓o_nePtr, ↓o_eqPtr', ↓o_eqSl, ↓o_neSl, ↓o_eqStr, ↓o_neStr, ↓o_len, ↓o_lenS, ↓o_min, ↓o_max, ↓o_extract, ↓o_convInt, ↓cd_true, ↓cd_false, ↓gate_tt, ↓gate_ff, ↓gate_tf, ↓gate_ft, ↓gate_undef, ↓o_bind, ↓stay_v, ↓pop_cons, ↓fin_nil, Option.isNone_none, Option.isNone_some, Bool.not_true, Bool.not_false, Nat.zero_add, decide_true, decide_false, if_true, if_false, Bool.false_eq_true, ↓reduceIte]
      refine ld_cell ((hrd.win h).cell b1 o1 rfl _ _ (dd_kind hlt)) ?_
      by_cases e2 : l[i].kind = 2
      · simp only [e2, ↓o_nil, ↓o_field, ↓o_add, ↓o_sub, ↓o_mul, ↓o_lss, ↓o_leq, ↓o_gtr, ↓o_geq, ↓o_not, ↓o_pick, ↓o_eqInt, ↓o_neInt, ↓o_eqBool, ↓o_neBool, ↓o_eqPtr, ↓o_nePtr, ↓o_eqPtr', ↓o_eqSl, ↓o_neSl, ↓o_eqStr, ↓o_neStr, ↓o_len, ↓o_lenS, ↓o_min, ↓o_max, ↓o_extract, ↓o_convInt, ↓cd_true, ↓cd_false, ↓gate_tt, ↓gate_ff, ↓gate_tf, ↓gate_ft, ↓gate_undef, ↓o_bind, ↓stay_v, ↓pop_cons, ↓fin_nil, Option.isNone_none, Option.isNone_some, Bool.not_true, Bool.not_false, Nat.zero_add, decide_true, decide_false, if_true, if_false, Bool.false_eq_true, ↓reduceIte]
        rw [i64_of (n := (i : Int) + 1) (by omega) (by omega)]
        by_cases e3 : (i : Int) + 1 < (l.length : Int)
        · simp only [e3, ↓o_nil, ↓o_field, ↓o_add, ↓o_sub, ↓o_mul, ↓o_lss, ↓o_leq, ↓o_gtr, ↓o_geq, ↓o_not, ↓o_pick, ↓o_eqInt, ↓o_neInt, ↓o_eqBool, ↓o_neBool, ↓o_eqPtr, ↓o_nePtr, ↓o_eqPtr', ↓o_eqSl, ↓o_neSl, ↓o_eqStr, ↓o_neStr, ↓o_len, ↓o_lenS, ↓o_min, ↓o_max, ↓o_extract, ↓o_convInt, ↓cd_true, ↓cd_false, ↓gate_tt, ↓gate_ff, ↓gate_tf, ↓gate_ft, ↓gate_undef, ↓o_bind, ↓stay_v, ↓pop_cons, ↓fin_nil, Option.isNone_none, Option.isNone_some, Bool.not_true, Bool.not_false, Nat.zero_add, decide_true, decide_false, if_true, if_false, Bool.false_eq_true, ↓reduceIte]
          rw [o_index (by omega) (by omega)]
          simp only [Int.toNat_natCast, ↓o_nil, ↓o_field, ↓o_add, ↓o_sub, ↓o_mul, ↓o_lss, ↓o_leq, ↓o_gtr, ↓o_geq, ↓o_not, ↓o_pick, ↓o_eqInt, ↓o_neInt, ↓o_eqBool, ↓o_neBool, ↓o_eqPtr, ↓o_nePtr, ↓o_eqPtr', ↓o_eqSl, ↓o_neSl, ↓o_eqStr, ↓o_neStr, ↓o_len, ↓o_lenS, ↓o_min, ↓o_max, ↓o_extract, ↓o_convInt, ↓cd_true, ↓cd_false, ↓gate_tt, ↓gate_ff, ↓gate_tf, ↓gate_ft, ↓gate_undef, ↓o_bind, ↓stay_v, ↓pop_cons, ↓fin_nil, Option.isNone_none, Option.isNone_some, Bool.not_true, Bool.not_false, Nat.zero_add, decide_true, decide_false, if_true, if_false, Bool.false_eq_true, ↓reduceIte]
          refine ld_el h hrd (i * 4) rfl (dcells l[i]) rfl (dd_at hlt) ?_
          refine alloc_sl h fun db w h => ?_
          refine store_all (b := db) h rfl rfl hone fun w h => ?_
          simp only [↓o_nil, ↓o_field, ↓o_add, ↓o_sub, ↓o_mul, ↓o_lss, ↓o_leq, ↓o_gtr, ↓o_geq, ↓o_not, ↓o_pick, ↓o_eqInt, ↓o_neInt, ↓o_eqBool, ↓o_neBool, ↓o_eqPtr, ↓o_nePtr, ↓o_eqPtr', ↓o_eqSl, ↓o_neSl, ↓o_eqStr, ↓o_neStr, ↓o_len, ↓o_lenS, ↓o_min, ↓o_max, ↓o_extract, ↓o_convInt, ↓cd_true, ↓cd_false, ↓gate_tt, ↓gate_ff, ↓gate_tf, ↓gate_ft, ↓gate_undef, ↓o_bind, ↓stay_v, ↓pop_cons, ↓fin_nil, Option.isNone_none, Option.isNone_some, Bool.not_true, Bool.not_false, Nat.zero_add, decide_true, decide_false, if_true, if_false, Bool.false_eq_true, ↓reduceIte]
          refine ld_in (b := db) (v := .int .i64 l[i].kind) h rfl ?_
          simp only [e2, ↓o_nil, ↓o_field, ↓o_add, ↓o_sub, ↓o_mul, ↓o_lss, ↓o_leq, ↓o_gtr, ↓o_geq, ↓o_not, ↓o_pick, ↓o_eqInt, ↓o_neInt, ↓o_eqBool, ↓o_neBool, ↓o_eqPtr, ↓o_nePtr, ↓o_eqPtr', ↓o_eqSl, ↓o_neSl, ↓o_eqStr, ↓o_neStr, ↓o_len, ↓o_lenS, ↓o_min, ↓o_max, ↓o_extract, ↓o_convInt, ↓cd_true, ↓cd_false, ↓gate_tt, ↓gate_ff, ↓gate_tf, ↓gate_ft, ↓gate_undef, ↓o_bind, ↓stay_v, ↓pop_cons, ↓fin_nil, Option.isNone_none, Option.isNone_some, Bool.not_true, Bool.not_false, Nat.zero_add, decide_true, decide_false, if_true, if_false, Bool.false_eq_true, ↓reduceIte, show ¬ (2 : Int) = 0 by decide]
          refine ld_in (b := db) (v := .int .i64 l[i].kind) h rfl ?_
          simp only [e2, ↓o_nil, ↓o_field, ↓o_add, ↓o_sub, ↓o_mul, ↓o_lss, ↓o_leq, ↓o_gtr, ↓o_geq, ↓o_not, ↓o_pick, ↓o_eqInt, ↓o_neInt, ↓o_eqBool, ↓o_neBool, ↓o_eqPtr, ↓o_nePtr, ↓o_eqPtr', ↓o_eqSl, ↓o_neSl, ↓o_eqStr, ↓o_neStr, ↓o_len, ↓o_lenS, ↓o_min, ↓o_max, ↓o_extract, ↓o_convInt, ↓cd_true, ↓cd_false, ↓gate_tt, ↓gate_ff, ↓gate_tf, ↓gate_ft, ↓gate_undef, ↓o_bind, ↓stay_v, ↓pop_cons, ↓fin_nil, Option.isNone_none, Option.isNone_some, Bool.not_true, Bool.not_false, Nat.zero_add, decide_true, decide_false, if_true, if_false, Bool.false_eq_true, ↓reduceIte, show ¬ (2 : Int) = 1 by decide]
          refine PCommit_spec f.ok (h.perm (star_left_comm _ _ _)) (by omega) (by omega) fun w h => ?_
          obtain ⟨gs', f'⟩ := f.com
          exact hk _ gs' w (f') ((h.perm (star_left_comm _ _ _)).drop)
        · simp only [e3, ↓o_nil, ↓o_field, ↓o_add, ↓o_sub, ↓o_mul, ↓o_lss, ↓o_leq, ↓o_gtr, ↓o_geq, ↓o_not, ↓o_pick, ↓o_eqInt, ↓o_neInt, ↓o_eqBool, ↓o_neBool, ↓o_eqPtr, ↓o_nePtr, ↓o_eqPtr', ↓o_eqSl, ↓o_neSl, ↓o_eqStr, ↓o_neStr, ↓o_len, ↓o_lenS, ↓o_min, ↓o_max, ↓o_extract, ↓o_convInt, ↓cd_true, ↓cd_false, ↓gate_tt, ↓gate_ff, ↓gate_tf, ↓gate_ft, ↓gate_undef, ↓o_bind, ↓stay_v, ↓pop_cons, ↓fin_nil, Option.isNone_none, Option.isNone_some, Bool.not_true, Bool.not_false, Nat.zero_add, decide_true, decide_false, if_true, if_false, Bool.false_eq_true, ↓reduceIte]
          exact hk _ gs w (hsame) (h)
      · simp only [e2, ↓o_nil, ↓o_field, ↓o_add, ↓o_sub, ↓o_mul, ↓o_lss, ↓o_leq, ↓o_gtr, ↓o_geq, ↓o_not, ↓o_pick, ↓o_eqInt, ↓o_neInt, ↓o_eqBool, ↓o_neBool, ↓o_eqPtr, ↓o_nePtr, ↓o_eqPtr', ↓o_eqSl, ↓o_neSl, ↓o_eqStr, ↓o_neStr, ↓o_len, ↓o_lenS, ↓o_min, ↓o_max, ↓o_extract, ↓o_convInt, ↓cd_true, ↓cd_false, ↓gate_tt, ↓gate_ff, ↓gate_tf, ↓gate_ft, ↓gate_undef, ↓o_bind, ↓stay_v, ↓pop_cons, ↓fin_nil, Option.isNone_none, Option.isNone_some, Bool.not_true, Bool.not_false, Nat.zero_add, decide_true, decide_false, if_true, if_false, Bool.false_eq_true, ↓reduceIte]
        exact hk _ gs w (hsame) (h)
theorem Cuts_spec (h : sat E w H) (sz : UInt8) {lv : Value} (l : List Dd) (hl : Rds H lv l.length (l.flatMap dcells)) (hm : l.length ≤ 9223372036854775807) (hs : ∀ x ∈ l, OkD H x) (kk : Fin 65536)
    (k : ∀ w', sat E w' H → K (.bool true) w') : Calls prog 7 #[bv sz, lv, .int .u16 (kk.val : Int)] w (Ret K) := by
  obtain ⟨al, cl, rfl, hcl, hl, _⟩ := hl.shape h
  have hdl := dcells_length l
  refine c7 ?_
  unfold B7
  have hN : sz.toNat % 12 + 2 ≤ 13 := by omega
  simp only [bv, ↓o_nil, ↓o_field, ↓o_add, ↓o_sub, ↓o_mul, ↓o_lss, ↓o_leq, ↓o_gtr, ↓o_geq, ↓o_not, ↓o_pick, ↓o_eqInt, ↓o_neInt, ↓o_eqBool, ↓o_neBool, ↓o_eqPtr, ↓o_nePtr, ↓o_eqPtr', ↓o_eqSl, ↓o_neSl, ↓o_eqStr, ↓o_neStr, ↓o_len, ↓o_lenS, ↓o_min, ↓o_max, ↓o_extract, ↓o_convInt, ↓cd_true, ↓cd_false, ↓gate_tt, ↓gate_ff, ↓gate_tf, ↓gate_ft, ↓gate_undef, ↓o_bind, ↓stay_v, ↓pop_cons, ↓fin_nil, Option.isNone_none, Option.isNone_some, Bool.not_true, Bool.not_false, Nat.zero_add, decide_true, decide_false, if_true, if_false, Bool.false_eq_true, ↓reduceIte]
  rw [o_rem (by decide)]
  try simp only [↓o_nil, ↓o_field, ↓o_add, ↓o_sub, ↓o_mul, ↓o_lss, ↓o_leq, ↓o_gtr, ↓o_geq, ↓o_not, ↓o_pick, ↓o_eqInt, ↓o_neInt, ↓o_eqBool, ↓o_neBool, ↓o_eqPtr, ↓o_nePtr, ↓o_eqPtr', ↓o_eqSl, ↓o_neSl, ↓o_eqStr, ↓o_neStr, ↓o_len, ↓o_lenS, ↓o_min, ↓o_max, ↓o_extract, ↓o_convInt, ↓cd_true, ↓cd_false, ↓gate_tt, ↓gate_ff, ↓gate_tf, ↓gate_ft, ↓gate_undef, ↓o_bind, ↓stay_v, ↓pop_cons, ↓fin_nil, Option.isNone_none, Option.isNone_some, Bool.not_true, Bool.not_false, Nat.zero_add, decide_true, decide_false, if_true, if_false, Bool.false_eq_true, ↓reduceIte]
  rw [mod_size]
  have hN2 : 2 ≤ sz.toNat % 12 + 2 := by omega
  generalize sz.toNat % 12 + 2 = N at hN hN2 ⊢
  refine open_spec (most := 4) h hN2 (by omega) (by omega) (by omega) fun A q w h => ?_
  have f0 : FarP (newP (newL (N + 12) N) 4) [] N 4 0 := FarP.start hN2 (by omega) (by omega) (by omega)
  try simp only [↓o_nil, ↓o_field, ↓o_add, ↓o_sub, ↓o_mul, ↓o_lss, ↓o_leq, ↓o_gtr, ↓o_geq, ↓o_not, ↓o_pick, ↓o_eqInt, ↓o_neInt, ↓o_eqBool, ↓o_neBool, ↓o_eqPtr, ↓o_nePtr, ↓o_eqPtr', ↓o_eqSl, ↓o_neSl, ↓o_eqStr, ↓o_neStr, ↓o_len, ↓o_lenS, ↓o_min, ↓o_max, ↓o_extract, ↓o_convInt, ↓cd_true, ↓cd_false, ↓gate_tt, ↓gate_ff, ↓gate_tf, ↓gate_ft, ↓gate_undef, ↓o_bind, ↓stay_v, ↓pop_cons, ↓fin_nil, Option.isNone_none, Option.isNone_some, Bool.not_true, Bool.not_false, Nat.zero_add, decide_true, decide_false, if_true, if_false, Bool.false_eq_true, ↓reduceIte]
  refine live_spec h fun w h => ?_
  try simp only [↓o_nil, ↓o_field, ↓o_add, ↓o_sub, ↓o_mul, ↓o_lss, ↓o_leq, ↓o_gtr, ↓o_geq, ↓o_not, ↓o_pick, ↓o_eqInt, ↓o_neInt, ↓o_eqBool, ↓o_neBool, ↓o_eqPtr, ↓o_nePtr, ↓o_eqPtr', ↓o_eqSl, ↓o_neSl, ↓o_eqStr, ↓o_neStr, ↓o_len, ↓o_lenS, ↓o_min, ↓o_max, ↓o_extract, ↓o_convInt, ↓cd_true, ↓cd_false, ↓gate_tt, ↓gate_ff, ↓gate_tf, ↓gate_ft, ↓gate_undef, ↓o_bind, ↓stay_v, ↓pop_cons, ↓fin_nil, Option.isNone_none, Option.isNone_some, Bool.not_true, Bool.not_false, Nat.zero_add, decide_true, decide_false, if_true, if_false, Bool.false_eq_true, ↓reduceIte]
  refine lp_nat (fun q σ w => ∃ (i : Nat) (P : Pg) (gs : List (List Int)), σ = [.int .i64 i] ∧ q = 60 - i ∧ i ≤ 60 ∧ FarP P gs N 4 i ∧ sat E w (pgr A P * H)) 60 ⟨0, _, [], rfl, rfl, by omega, f0, h⟩ ?_
  clear h
  rintro q σ w again ⟨i, P, gs, rfl, rfl, hi, f, h⟩ hag
  try simp only [↓o_nil, ↓o_field, ↓o_add, ↓o_sub, ↓o_mul, ↓o_lss, ↓o_leq, ↓o_gtr, ↓o_geq, ↓o_not, ↓o_pick, ↓o_eqInt, ↓o_neInt, ↓o_eqBool, ↓o_neBool, ↓o_eqPtr, ↓o_nePtr, ↓o_eqPtr', ↓o_eqSl, ↓o_neSl, ↓o_eqStr, ↓o_neStr, ↓o_len, ↓o_lenS, ↓o_min, ↓o_max, ↓o_extract, ↓o_convInt, ↓cd_true, ↓cd_false, ↓gate_tt, ↓gate_ff, ↓gate_tf, ↓gate_ft, ↓gate_undef, ↓o_bind, ↓stay_v, ↓pop_cons, ↓fin_nil, Option.isNone_none, Option.isNone_some, Bool.not_true, Bool.not_false, Nat.zero_add, decide_true, decide_false, if_true, if_false, Bool.false_eq_true, ↓reduceIte]
  have hW := f.w; have hg := f.g; have hh := f.h; have hms := f.ms
  have hlen := f.len; have hsz := f.size
  have hpg := f.pages
  have hend := Cuts_end kk f hN2 hN hi h k
  try simp only [↓o_nil, ↓o_field, ↓o_add, ↓o_sub, ↓o_mul, ↓o_lss, ↓o_leq, ↓o_gtr, ↓o_geq, ↓o_not, ↓o_pick, ↓o_eqInt, ↓o_neInt, ↓o_eqBool, ↓o_neBool, ↓o_eqPtr, ↓o_nePtr, ↓o_eqPtr', ↓o_eqSl, ↓o_neSl, ↓o_eqStr, ↓o_neStr, ↓o_len, ↓o_lenS, ↓o_min, ↓o_max, ↓o_extract, ↓o_convInt, ↓cd_true, ↓cd_false, ↓gate_tt, ↓gate_ff, ↓gate_tf, ↓gate_ft, ↓gate_undef, ↓o_bind, ↓stay_v, ↓pop_cons, ↓fin_nil, Option.isNone_none, Option.isNone_some, Bool.not_true, Bool.not_false, Nat.zero_add, decide_true, decide_false, if_true, if_false, Bool.false_eq_true, ↓reduceIte] at hend
  by_cases h1 : (i : Int) < (l.length : Int)
  · by_cases h2 : (i : Int) < 60
    · simp only [h1, h2, ↓o_nil, ↓o_field, ↓o_add, ↓o_sub, ↓o_mul, ↓o_lss, ↓o_leq, ↓o_gtr, ↓o_geq, ↓o_not, ↓o_pick, ↓o_eqInt, ↓o_neInt, ↓o_eqBool, ↓o_neBool, ↓o_eqPtr, ↓o_nePtr, ↓o_eqPtr', ↓o_eqSl, ↓o_neSl, ↓o_eqStr, ↓o_neStr, ↓o_len, ↓o_lenS, ↓o_min, ↓o_max, ↓o_extract, ↓o_convInt, ↓cd_true, ↓cd_false, ↓gate_tt, ↓gate_ff, ↓gate_tf, ↓gate_ft, ↓gate_undef, ↓o_bind, ↓stay_v, ↓pop_cons, ↓fin_nil, Option.isNone_none, Option.isNone_some, Bool.not_true, Bool.not_false, Nat.zero_add, decide_true, decide_false, if_true, if_false, Bool.false_eq_true, ↓reduceIte]
      have hlt : i < l.length := by omega
      have hx := hs _ (List.getElem_mem hlt)
      refine jn_cut (fun σ w => ∃ (P' : Pg) (gs : List (List Int)), σ = [] ∧ FarP P' gs N 4 (i + 1) ∧ sat E w (pgr A P' * H)) ?_ ?_
      · intro kk' hk
        have hstep := Cuts_step f hi h hl hm hs hlt (k_20 := kk') fun P' gs' w f' h => hk _ w ⟨P', gs', rfl, f', h⟩
        simp only [↓o_nil, ↓o_field, ↓o_add, ↓o_sub, ↓o_mul, ↓o_lss, ↓o_leq, ↓o_gtr, ↓o_geq, ↓o_not, ↓o_pick, ↓o_eqInt, ↓o_neInt, ↓o_eqBool, ↓o_neBool, ↓o_eqPtr, ↓o_nePtr, ↓o_eqPtr', ↓o_eqSl, ↓o_neSl, ↓o_eqStr, ↓o_neStr, ↓o_len, ↓o_lenS, ↓o_min, ↓o_max, ↓o_extract, ↓o_convInt, ↓cd_true, ↓cd_false, ↓gate_tt, ↓gate_ff, ↓gate_tf, ↓gate_ft, ↓gate_undef, ↓o_bind, ↓stay_v, ↓pop_cons, ↓fin_nil, Option.isNone_none, Option.isNone_some, Bool.not_true, Bool.not_false, Nat.zero_add, decide_true, decide_false, if_true, if_false, Bool.false_eq_true, ↓reduceIte] at hstep
        exact hstep
      · rintro σ w ⟨P', gs, rfl, f', h⟩
        try simp only [↓o_nil, ↓o_field, ↓o_add, ↓o_sub, ↓o_mul, ↓o_lss, ↓o_leq, ↓o_gtr, ↓o_geq, ↓o_not, ↓o_pick, ↓o_eqInt, ↓o_neInt, ↓o_eqBool, ↓o_neBool, ↓o_eqPtr, ↓o_nePtr, ↓o_eqPtr', ↓o_eqSl, ↓o_neSl, ↓o_eqStr, ↓o_neStr, ↓o_len, ↓o_lenS, ↓o_min, ↓o_max, ↓o_extract, ↓o_convInt, ↓cd_true, ↓cd_false, ↓gate_tt, ↓gate_ff, ↓gate_tf, ↓gate_ft, ↓gate_undef, ↓o_bind, ↓stay_v, ↓pop_cons, ↓fin_nil, Option.isNone_none, Option.isNone_some, Bool.not_true, Bool.not_false, Nat.zero_add, decide_true, decide_false, if_true, if_false, Bool.false_eq_true, ↓reduceIte]
        rw [i64_of (by omega) (by omega)]
        exact hag (60 - (i + 1)) _ _ (by omega) ⟨i + 1, P', gs, rfl, rfl, by omega, f', h⟩
    · simp only [h1, h2, ↓o_nil, ↓o_field, ↓o_add, ↓o_sub, ↓o_mul, ↓o_lss, ↓o_leq, ↓o_gtr, ↓o_geq, ↓o_not, ↓o_pick, ↓o_eqInt, ↓o_neInt, ↓o_eqBool, ↓o_neBool, ↓o_eqPtr, ↓o_nePtr, ↓o_eqPtr', ↓o_eqSl, ↓o_neSl, ↓o_eqStr, ↓o_neStr, ↓o_len, ↓o_lenS, ↓o_min, ↓o_max, ↓o_extract, ↓o_convInt, ↓cd_true, ↓cd_false, ↓gate_tt, ↓gate_ff, ↓gate_tf, ↓gate_ft, ↓gate_undef, ↓o_bind, ↓stay_v, ↓pop_cons, ↓fin_nil, Option.isNone_none, Option.isNone_some, Bool.not_true, Bool.not_false, Nat.zero_add, decide_true, decide_false, if_true, if_false, Bool.false_eq_true, ↓reduceIte]
      exact hend
  · simp only [h1, ↓o_nil, ↓o_field, ↓o_add, ↓o_sub, ↓o_mul, ↓o_lss, ↓o_leq, ↓o_gtr, ↓o_geq, ↓o_not, ↓o_pick, ↓o_eqInt, ↓o_neInt, ↓o_eqBool, ↓o_neBool, ↓o_eqPtr, ↓o_nePtr, ↓o_eqPtr', ↓o_eqSl, ↓o_neSl, ↓o_eqStr, ↓o_neStr, ↓o_len, ↓o_lenS, ↓o_min, ↓o_max, ↓o_extract, ↓o_convInt, ↓cd_true, ↓cd_false, ↓gate_tt, ↓gate_ff, ↓gate_tf, ↓gate_ft, ↓gate_undef, ↓o_bind, ↓stay_v, ↓pop_cons, ↓fin_nil, Option.isNone_none, Option.isNone_some, Bool.not_true, Bool.not_false, Nat.zero_add, decide_true, decide_false, if_true, if_false, Bool.false_eq_true, ↓reduceIte]
    exact hend
end Go.Proofs.YtcjklbhobmkalaaGreat.Cuts
