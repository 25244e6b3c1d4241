/-
  TopWorn: the walk.
-/
import Derived.Test.YtgkeplodfkmnlaaPgrN
set_option linter.all false
set_option maxRecDepth 100000
namespace Go.Proofs.Ytgkeplodfkmnlaa.Worn
open Go Hold Go.ChangeShapes Go.WideShapes Go.ChangeAt Go.RowKit
variable {E : World0} {w : World} {H R : HP} {K : Value → World → Prop}
/-- What the law keeps in mind. -/
structure Kept (P : Pg) (gs : List (List Int)) (want : Bs) (i : Nat) : Prop where
  ok : POk P gs
  d : P.dirty = []
  size : P.S.size = 5
  len : P.S.L.length = 20
  g : P.S.groups = i
  w : P.S.W.length ≤ 2000 * i
  wl : want.length = 14
  v : ∀ n, n < 14 → (P.S.view n)[0]? = want[n]?
theorem view_len {S : Lg} {gs : List (List Int)} (i : LInv S gs) {n : Nat} (h : n < S.pages) : (S.view n).length = 256 := by
  unfold Lg.view
  rw [getD_of (i.place_lt h)]
  exact i.wf.l _ (List.getElem_mem _)
theorem Kept.start : Kept (newP (newL 20 5) 3) [] (List.replicate 14 0) 0 := by
  have i := newL_inv (n := 20) (size := 5) (by omega) (by omega) (by omega)
  refine ⟨newP_ok i (by omega) (by omega), rfl, rfl, by simp [newP, newL], rfl, by simp [newP, newL], by simp, fun n hn => ?_⟩
  have hpl : (newP (newL 20 5) 3).S.place n = 6 + n := by show (newL 20 5).place n = _; unfold Lg.place; simp [newL, lookA]
  unfold Lg.view
  rw [hpl]
  show ((List.replicate 20 zeros).getD _ _)[0]? = _
  rw [List.getD_eq_getElem?_getD, List.getElem?_replicate, if_pos (by omega), List.getElem?_replicate, if_pos (by omega)]
  rfl
theorem Kept.step {P : Pg} {gs : List (List Int)} {want : Bs} {i : Nat} (k : Kept P gs want i) {n : Nat} (hn : n < 14) {b : Bs} (hb : b.length = 256) {x : UInt8} (hx : b[0]? = some x) :
    writeE P n b = 0 ∧ comE (writeT P n b).S (writeT P n b).dirty = 0 ∧ ∃ gs', Kept (comP (writeT P n b)) gs' (want.set n x) (i + 1) := by
  have hpg : P.S.pages = 14 := by unfold Lg.pages; rw [k.len, k.size]
  have he : writeE P n b = 0 := by
    unfold writeE lookE
    rw [if_neg (by rw [if_neg (by omega)]; simp), if_neg (by omega), if_neg (by rw [k.d]; simp)]
  have hd : (writeT P n b).dirty = [((n : Int), b)] := by show putB P.dirty n b = _; rw [k.d]; rfl
  have hS : (writeT P n b).S = P.S := rfl
  have ok1 := k.ok.write he
  have hco : ComOk P.S [((n : Int), b)] := com_ok k.ok.i (by simp) (by simp) (fun p hp => by simp at hp; subst hp; exact ⟨by simp, by simp; omega⟩) ⟨by simp, fun p hp => by simp at hp; subst hp; exact hb⟩ (by rw [k.size]; simp)
  obtain ⟨gs', ok2⟩ := ok1.com
  refine ⟨he, by rw [hS, hd]; exact hco.e, gs', ok2, ?_, ?_, ?_, ?_, ?_, by rw [List.length_set]; exact k.wl, fun m hm => ?_⟩
  · unfold comP; simp only; rw [hS, hd, if_pos hco.e]
  · show (comS (writeT P n b).S (writeT P n b).dirty).size = 5
    rw [com_size]; exact k.size
  · show (comS (writeT P n b).S (writeT P n b).dirty).L.length = 20
    rw [hS, hd, hco.l]; exact k.len
  · show (comS (writeT P n b).S (writeT P n b).dirty).groups = i + 1
    rw [hS, hd, hco.g, k.g]
  · show (comS (writeT P n b).S (writeT P n b).dirty).W.length ≤ _
    rw [hS, hd]
    have h1 := k.w
    have h2 := hco.w2
    simp only [List.length_cons, List.length_nil] at h2
    omega
  · show ((comS (writeT P n b).S (writeT P n b).dirty).view m)[0]? = _
    rw [hS, hd, k.ok.i.com_view (by omega), if_pos hco.e, List.getElem?_set]
    by_cases e : n = m
    · subst e
      rw [if_pos rfl, if_pos (by rw [k.wl]; omega)]
      simp only [lookB, if_true, Option.getD_some]
      exact hx
    · rw [if_neg e]
      simp only [lookB]
      rw [if_neg (by omega)]
      exact k.v m hm
theorem Worn_spec (h : sat E w H) {lv : Value} (l : Bs) (hl : Rds H lv l.length (l.map bv)) (ml : l.length ≤ 140737488351232) (k : ∀ w', sat E w' H → K (.bool true) w') : Calls prog 6 #[lv] w (Ret K) := by
  obtain ⟨al, cl, rfl, hcl, hl, _⟩ := hl.shape h
  refine c6 ?_
  unfold B6
  refine New_spec h (n := 20) (by omega) (by omega) fun d0 w h => ?_
  simp only [↓o_nil, ↓o_field, ↓o_add, ↓o_sub, ↓o_mul, ↓o_lss, ↓o_leq, ↓o_gtr, ↓o_geq, ↓o_not, ↓o_pick, ↓o_eqInt, ↓o_neInt, ↓o_eqBool, ↓o_neBool, ↓o_eqPtr, ↓o_nePtr, ↓o_eqPtr', ↓o_eqSl, ↓o_neSl, ↓o_eqStr, ↓o_neStr, ↓o_len, ↓o_lenS, ↓o_min, ↓o_max, ↓o_extract, ↓o_convInt, ↓cd_true, ↓cd_false, ↓gate_tt, ↓gate_ff, ↓gate_tf, ↓gate_ft, ↓gate_undef, ↓o_bind, ↓stay_v, ↓pop_cons, ↓fin_nil, Option.isNone_none, Option.isNone_some, Bool.not_true, Bool.not_false, Nat.zero_add, decide_true, decide_false, if_true, if_false, Bool.false_eq_true, ↓reduceIte]
  rw [show (20 : Int).toNat = 20 from rfl] at h
  have i0 := newL_inv (n := 20) (size := 5) (by omega) (by omega) (by omega)
  refine Open_spec (S := newL 20 5) (gs := []) i0 rfl (by show (0 : Nat) < 2 ^ 62; decide) (dd := d0) (W := []) h (Z_wf (by omega) (by omega)) fun p d b w h => ?_
  try simp only [↓o_nil, ↓o_field, ↓o_add, ↓o_sub, ↓o_mul, ↓o_lss, ↓o_leq, ↓o_gtr, ↓o_geq, ↓o_not, ↓o_pick, ↓o_eqInt, ↓o_neInt, ↓o_eqBool, ↓o_neBool, ↓o_eqPtr, ↓o_nePtr, ↓o_eqPtr', ↓o_eqSl, ↓o_neSl, ↓o_eqStr, ↓o_neStr, ↓o_len, ↓o_lenS, ↓o_min, ↓o_max, ↓o_extract, ↓o_convInt, ↓cd_true, ↓cd_false, ↓gate_tt, ↓gate_ff, ↓gate_tf, ↓gate_ft, ↓gate_undef, ↓o_bind, ↓stay_v, ↓pop_cons, ↓fin_nil, Option.isNone_none, Option.isNone_some, Bool.not_true, Bool.not_false, Nat.zero_add, decide_true, decide_false, if_true, if_false, Bool.false_eq_true, ↓reduceIte]
  refine PNew_spec (most := 3) h (by omega) (by omega) fun A w hA h => ?_
  try simp only [↓o_nil, ↓o_field, ↓o_add, ↓o_sub, ↓o_mul, ↓o_lss, ↓o_leq, ↓o_gtr, ↓o_geq, ↓o_not, ↓o_pick, ↓o_eqInt, ↓o_neInt, ↓o_eqBool, ↓o_neBool, ↓o_eqPtr, ↓o_nePtr, ↓o_eqPtr', ↓o_eqSl, ↓o_neSl, ↓o_eqStr, ↓o_neStr, ↓o_len, ↓o_lenS, ↓o_min, ↓o_max, ↓o_extract, ↓o_convInt, ↓cd_true, ↓cd_false, ↓gate_tt, ↓gate_ff, ↓gate_tf, ↓gate_ft, ↓gate_undef, ↓o_bind, ↓stay_v, ↓pop_cons, ↓fin_nil, Option.isNone_none, Option.isNone_some, Bool.not_true, Bool.not_false, Nat.zero_add, decide_true, decide_false, if_true, if_false, Bool.false_eq_true, ↓reduceIte]
  have h := (h.perm (star_left_comm _ _ _)).drop
  refine make_sl h rfl (by omega) (by omega) (by omega) (by omega) fun wb w h => ?_
  have e14 : (14 : Int).toNat = 14 := rfl
  rw [e14] at h ⊢
  have h : sat E w (pts wb (.cells ((List.replicate 14 (0 : UInt8)).map bv).toArray 5 (0, 0)) * (pgr A (newP (newL 20 5) 3) * H)) := by
    rw [List.map_replicate]; exact h
  rw [← hA]
  clear hA
  refine lp_nat (fun q σ w => ∃ (i : Nat) (P : Pg) (gs : List (List Int)) (want : Bs), σ = [.int .i64 i] ∧ q = 60 - i ∧ i ≤ 60 ∧ Kept P gs want i ∧ sat E w (pts wb (.cells (want.map bv).toArray 5 (0, 0)) * (pgr A P * H))) 60 ⟨0, _, [], _, rfl, rfl, by omega, Kept.start, h⟩ ?_
  clear h
  rintro q σ w again ⟨i, P, gs, want, rfl, rfl, hi, kp, h⟩ hag
  try simp only [↓o_nil, ↓o_field, ↓o_add, ↓o_sub, ↓o_mul, ↓o_lss, ↓o_leq, ↓o_gtr, ↓o_geq, ↓o_not, ↓o_pick, ↓o_eqInt, ↓o_neInt, ↓o_eqBool, ↓o_neBool, ↓o_eqPtr, ↓o_nePtr, ↓o_eqPtr', ↓o_eqSl, ↓o_neSl, ↓o_eqStr, ↓o_neStr, ↓o_len, ↓o_lenS, ↓o_min, ↓o_max, ↓o_extract, ↓o_convInt, ↓cd_true, ↓cd_false, ↓gate_tt, ↓gate_ff, ↓gate_tf, ↓gate_ft, ↓gate_undef, ↓o_bind, ↓stay_v, ↓pop_cons, ↓fin_nil, Option.isNone_none, Option.isNone_some, Bool.not_true, Bool.not_false, Nat.zero_add, decide_true, decide_false, if_true, if_false, Bool.false_eq_true, ↓reduceIte]
  have hsz := kp.size; have hlen := kp.len; have hg := kp.g; have hW := kp.w; have hwl := kp.wl
  have hpg : P.S.pages = 14 := by unfold Lg.pages; omega
  have hend : ∀ w, sat E w (pts wb (.cells (want.map bv).toArray 5 (0, 0)) * (pgr A P * H)) → (
    Calls prog 12 #[(.pointer (some ⟨A.p, 0, none⟩))] w (Ret fun t_52 w =>
    Calls prog 16 #[t_52, (.int .i64 5)] w (Ret fun t_53 w =>
    pvv prog (Instr.extract t_53 0) w fun t_54 w =>
    pvv prog (Instr.extract t_53 1) w fun t_55 w =>
    lp (fun σ w again_57 => pop σ fun n_56 σ => fin σ <|
      pvv prog (binOp .lss 3 n_56 (.int .i64 14)) w fun t_58 w =>
      cd t_58 (
        Calls prog 17 #[t_54, n_56] w (Ret fun t_59 w =>
        pvv prog (Instr.extract t_59 0) w fun t_60 w =>
        pvv prog (Instr.extract t_59 1) w fun t_61 w =>
        dr w fun w =>
        pvv prog (oEq .neq 36 (.tmp 108) (.const (.int .i64 0)) t_61 (.int .i64 0)) w fun t_62 w =>
        gate (some (t_62, false)) (fun K => K t_60 w) w fun t_63 w =>
        gate (some (t_62, false)) (fun K => pv prog (oBi .len #[33] 3 #[false] #[t_63]) w K) w fun t_64 w =>
        gate (some (t_62, false)) (fun K => pvv prog (oEq .neq 3 (.tmp 112) (.const (.int .i64 256)) t_64 (.int .i64 256)) w K) w fun t_65 w =>
        pv prog (oPick t_62 (.bool true) t_65) w fun t_66 w =>
        gate (some (t_66, false)) (fun K => K t_60 w) w fun t_67 w =>
        gate (some (t_66, false)) (fun K => pvv prog (Instr.indexAt 33 t_67 (.int .i64 0)) w K) w fun t_68 w =>
        gate (some (t_66, false)) (fun K => K (.slice (some ⟨wb, 0, none⟩) 14 14) w) w fun t_69 w =>
        gate (some (t_66, false)) (fun K => K n_56 w) w fun t_70 w =>
        gate (some (t_66, false)) (fun K => pvv prog (Instr.indexAt 33 t_69 t_70) w K) w fun t_71 w =>
        bindS (vN (Instr.loadAt 5 t_68)) fun m_73 => gate (some (t_66, false)) (fun K => ldv prog (Instr.loadAt 5 t_68) w K) w fun t_72 w =>
        bindS (vN (Instr.loadAt 5 t_71)) fun m_75 => gate (some (t_66, false)) (fun K => ldv prog (Instr.loadAt 5 t_71) w K) w fun t_74 w =>
        gate (some (t_66, false)) (fun K => pvv prog (oEq .neq 5 (.tmp 118) (.tmp 122) t_72 t_74) w K) w fun t_76 w =>
        pv prog (oPick t_66 (.bool true) t_76) w fun t_77 w =>
        cd t_77 (
          K (.bool false) w) <|
        pvv prog (binOp .add 3 n_56 (.int .i64 1)) w fun t_78 w =>
        again_57 [t_78] w)) <|
      pvv prog (oEq .eql 36 (.tmp 125) (.const (.int .i64 0)) t_55 (.int .i64 0)) w fun t_79 w =>
      gate (some (t_79, true)) (fun K => K t_54 w) w fun t_80 w =>
      gate (some (t_79, true)) (fun K => Calls prog 21 #[t_80] w (Ret K)) w fun t_81 w =>
      gate (some (t_79, true)) (fun K => K (.pointer (some ⟨A.p, 0, none⟩)) w) w fun t_82 w =>
      gate (some (t_79, true)) (fun K => Calls prog 21 #[t_82] w (Ret K)) w fun t_83 w =>
      gate (some (t_79, true)) (fun K => pvv prog (oEq .eql 3 (.tmp 129) (.tmp 131) t_81 t_83) w K) w fun t_84 w =>
      pv prog (oPick t_79 t_84 (.bool false)) w fun t_85 w =>
      K t_85 w) [(.int .i64 0)] w))) := by
    intro w h
    refine PDisk_spec (h.perm (star_left_comm _ _ _)) (by omega) (by omega) fun f w h => ?_
    have hal := kp.ok.i.alike
    have i2 := hal.inv kp.ok.i
    have hs5 : (ofL P.S P.S.L).size = 5 := hsz
    rw [show (Value.int .i64 5) = Value.int .i64 (((ofL P.S P.S.L).size : Nat) : Int) by rw [hs5]; rfl]
    refine Open_spec (S := ofL P.S P.S.L) i2 rfl (by show P.S.groups < 2 ^ 62; omega) (dd := f) (W := P.S.W) h kp.ok.i.wf fun p2 d2 b2 w h => ?_
    try simp only [↓o_nil, ↓o_field, ↓o_add, ↓o_sub, ↓o_mul, ↓o_lss, ↓o_leq, ↓o_gtr, ↓o_geq, ↓o_not, ↓o_pick, ↓o_eqInt, ↓o_neInt, ↓o_eqBool, ↓o_neBool, ↓o_eqPtr, ↓o_nePtr, ↓o_eqPtr', ↓o_eqSl, ↓o_neSl, ↓o_eqStr, ↓o_neStr, ↓o_len, ↓o_lenS, ↓o_min, ↓o_max, ↓o_extract, ↓o_convInt, ↓cd_true, ↓cd_false, ↓gate_tt, ↓gate_ff, ↓gate_tf, ↓gate_ft, ↓gate_undef, ↓o_bind, ↓stay_v, ↓pop_cons, ↓fin_nil, Option.isNone_none, Option.isNone_some, Bool.not_true, Bool.not_false, Nat.zero_add, decide_true, decide_false, if_true, if_false, Bool.false_eq_true, ↓reduceIte]
    have hp2 : (ofL P.S P.S.L).pages = 14 := hpg
    refine lp_nat (fun q σ w => ∃ n : Nat, σ = [.int .i64 n] ∧ q = 14 - n ∧ n ≤ 14 ∧ sat E w (lgI p2 d2 b2 (ofL P.S P.S.L) (dsk f P.S.L P.S.W * (pgr A P * (pts wb (.cells (want.map bv).toArray 5 (0, 0)) * H))))) 14 ⟨0, rfl, rfl, by omega, h⟩ ?_
    clear h hag
    rintro q σ w again ⟨n, rfl, rfl, hn, h⟩ hag
    try simp only [↓o_nil, ↓o_field, ↓o_add, ↓o_sub, ↓o_mul, ↓o_lss, ↓o_leq, ↓o_gtr, ↓o_geq, ↓o_not, ↓o_pick, ↓o_eqInt, ↓o_neInt, ↓o_eqBool, ↓o_neBool, ↓o_eqPtr, ↓o_nePtr, ↓o_eqPtr', ↓o_eqSl, ↓o_neSl, ↓o_eqStr, ↓o_neStr, ↓o_len, ↓o_lenS, ↓o_min, ↓o_max, ↓o_extract, ↓o_convInt, ↓cd_true, ↓cd_false, ↓gate_tt, ↓gate_ff, ↓gate_tf, ↓gate_ft, ↓gate_undef, ↓o_bind, ↓stay_v, ↓pop_cons, ↓fin_nil, Option.isNone_none, Option.isNone_some, Bool.not_true, Bool.not_false, Nat.zero_add, decide_true, decide_false, if_true, if_false, Bool.false_eq_true, ↓reduceIte]
    refine cd_dec (fun hlt => ?_) (fun hge => ?_)
    · have hlt : n < 14 := by omega
      refine Read_ok h (by show P.S.size + 1 ≤ P.S.L.length; omega) (by show P.S.L.length ≤ 1024; omega) (by omega) i2.wf.l (fun v e => i2.look e) (i2.place_lt (by omega)) fun rv w h => ?_
      try simp only [↓o_nil, ↓o_field, ↓o_add, ↓o_sub, ↓o_mul, ↓o_lss, ↓o_leq, ↓o_gtr, ↓o_geq, ↓o_not, ↓o_pick, ↓o_eqInt, ↓o_neInt, ↓o_eqBool, ↓o_neBool, ↓o_eqPtr, ↓o_nePtr, ↓o_eqPtr', ↓o_eqSl, ↓o_neSl, ↓o_eqStr, ↓o_neStr, ↓o_len, ↓o_lenS, ↓o_min, ↓o_max, ↓o_extract, ↓o_convInt, ↓cd_true, ↓cd_false, ↓gate_tt, ↓gate_ff, ↓gate_tf, ↓gate_ft, ↓gate_undef, ↓o_bind, ↓stay_v, ↓pop_cons, ↓fin_nil, Option.isNone_none, Option.isNone_some, Bool.not_true, Bool.not_false, Nat.zero_add, decide_true, decide_false, if_true, if_false, Bool.false_eq_true, ↓reduceIte]
      have hv : (ofL P.S P.S.L).L.getD ((ofL P.S P.S.L).place n) [] = P.S.view n := rfl
      rw [hv] at h
      have hvl := view_len kp.ok.i (n := n) (by omega)
      have hv0 := kp.v n hlt
      refine dr_sl h fun w h _ => ?_
      have hrw : Rds (osl 5 1 rv 256 ((P.S.view n).map bv) * lgI p2 d2 b2 (ofL P.S P.S.L) (dsk f P.S.L P.S.W * (pgr A P * (pts wb (.cells (want.map bv).toArray 5 (0, 0)) * H)))) rv 256 ((P.S.view n).map bv) := Rds.osl.left
      obtain ⟨ar, cr, rfl, _, hrw, _⟩ := hrw.shape h
      have e256 : ((256 : Nat) : Int) = 256 := rfl
      try simp only [e256, ↓o_nil, ↓o_field, ↓o_add, ↓o_sub, ↓o_mul, ↓o_lss, ↓o_leq, ↓o_gtr, ↓o_geq, ↓o_not, ↓o_pick, ↓o_eqInt, ↓o_neInt, ↓o_eqBool, ↓o_neBool, ↓o_eqPtr, ↓o_nePtr, ↓o_eqPtr', ↓o_eqSl, ↓o_neSl, ↓o_eqStr, ↓o_neStr, ↓o_len, ↓o_lenS, ↓o_min, ↓o_max, ↓o_extract, ↓o_convInt, ↓cd_true, ↓cd_false, ↓gate_tt, ↓gate_ff, ↓gate_tf, ↓gate_ft, ↓gate_undef, ↓o_bind, ↓stay_v, ↓pop_cons, ↓fin_nil, Option.isNone_none, Option.isNone_some, Bool.not_true, Bool.not_false, Nat.zero_add, decide_true, decide_false, if_true, if_false, Bool.false_eq_true, ↓reduceIte]
      obtain ⟨b5, o5, rfl, hb5⟩ := win_cell (hrw.win h) (j := 0) (by rw [List.length_map]; omega)
      rw [o_index (by omega) (by omega)]
      simp only [↓o_nil, ↓o_field, ↓o_add, ↓o_sub, ↓o_mul, ↓o_lss, ↓o_leq, ↓o_gtr, ↓o_geq, ↓o_not, ↓o_pick, ↓o_eqInt, ↓o_neInt, ↓o_eqBool, ↓o_neBool, ↓o_eqPtr, ↓o_nePtr, ↓o_eqPtr', ↓o_eqSl, ↓o_neSl, ↓o_eqStr, ↓o_neStr, ↓o_len, ↓o_lenS, ↓o_min, ↓o_max, ↓o_extract, ↓o_convInt, ↓cd_true, ↓cd_false, ↓gate_tt, ↓gate_ff, ↓gate_tf, ↓gate_ft, ↓gate_undef, ↓o_bind, ↓stay_v, ↓pop_cons, ↓fin_nil, Option.isNone_none, Option.isNone_some, Bool.not_true, Bool.not_false, Nat.zero_add, decide_true, decide_false, if_true, if_false, Bool.false_eq_true, ↓reduceIte, Int.toNat_zero, Nat.zero_mul, Nat.add_zero]
      rw [o_index (by omega) (by omega)]
      simp only [↓o_nil, ↓o_field, ↓o_add, ↓o_sub, ↓o_mul, ↓o_lss, ↓o_leq, ↓o_gtr, ↓o_geq, ↓o_not, ↓o_pick, ↓o_eqInt, ↓o_neInt, ↓o_eqBool, ↓o_neBool, ↓o_eqPtr, ↓o_nePtr, ↓o_eqPtr', ↓o_eqSl, ↓o_neSl, ↓o_eqStr, ↓o_neStr, ↓o_len, ↓o_lenS, ↓o_min, ↓o_max, ↓o_extract, ↓o_convInt, ↓cd_true, ↓cd_false, ↓gate_tt, ↓gate_ff, ↓gate_tf, ↓gate_ft, ↓gate_undef, ↓o_bind, ↓stay_v, ↓pop_cons, ↓fin_nil, Option.isNone_none, Option.isNone_some, Bool.not_true, Bool.not_false, Nat.zero_add, decide_true, decide_false, if_true, if_false, Bool.false_eq_true, ↓reduceIte, Int.toNat_natCast, Nat.mul_one, Nat.zero_add]
      rw [List.getElem_map] at hb5
      refine ld_cell hb5 ?_
      try simp only [↓o_nil, ↓o_field, ↓o_add, ↓o_sub, ↓o_mul, ↓o_lss, ↓o_leq, ↓o_gtr, ↓o_geq, ↓o_not, ↓o_pick, ↓o_eqInt, ↓o_neInt, ↓o_eqBool, ↓o_neBool, ↓o_eqPtr, ↓o_nePtr, ↓o_eqPtr', ↓o_eqSl, ↓o_neSl, ↓o_eqStr, ↓o_neStr, ↓o_len, ↓o_lenS, ↓o_min, ↓o_max, ↓o_extract, ↓o_convInt, ↓cd_true, ↓cd_false, ↓gate_tt, ↓gate_ff, ↓gate_tf, ↓gate_ft, ↓gate_undef, ↓o_bind, ↓stay_v, ↓pop_cons, ↓fin_nil, Option.isNone_none, Option.isNone_some, Bool.not_true, Bool.not_false, Nat.zero_add, decide_true, decide_false, if_true, if_false, Bool.false_eq_true, ↓reduceIte]
      have hw1 : want[n]? = some ((P.S.view n)[0]) := by rw [← hv0, List.getElem?_eq_getElem]
      unfold lgI at h
      refine ld_in (b := wb) (v := bv ((P.S.view n)[0])) h (by rw [List.getElem?_map, hw1]; rfl) ?_
      simp only [bv, decide_true, ↓o_nil, ↓o_field, ↓o_add, ↓o_sub, ↓o_mul, ↓o_lss, ↓o_leq, ↓o_gtr, ↓o_geq, ↓o_not, ↓o_pick, ↓o_eqInt, ↓o_neInt, ↓o_eqBool, ↓o_neBool, ↓o_eqPtr, ↓o_nePtr, ↓o_eqPtr', ↓o_eqSl, ↓o_neSl, ↓o_eqStr, ↓o_neStr, ↓o_len, ↓o_lenS, ↓o_min, ↓o_max, ↓o_extract, ↓o_convInt, ↓cd_true, ↓cd_false, ↓gate_tt, ↓gate_ff, ↓gate_tf, ↓gate_ft, ↓gate_undef, ↓o_bind, ↓stay_v, ↓pop_cons, ↓fin_nil, Option.isNone_none, Option.isNone_some, Bool.not_true, Bool.not_false, Nat.zero_add, decide_true, decide_false, if_true, if_false, Bool.false_eq_true, ↓reduceIte]
      rw [i64_of (by omega) (by omega)]
      refine hag (14 - (n + 1)) _ _ (by omega) ⟨n + 1, rfl, rfl, by omega, ?_⟩
      unfold lgI
      exact h.drop
    · refine Groups_spec h ?_
      have h2 : sat E w (pgr A P * (lgI p2 d2 b2 (ofL P.S P.S.L) (dsk f P.S.L P.S.W * (pts wb (.cells (want.map bv).toArray 5 (0, 0)) * H)))) := by
        unfold lgI at h ⊢
        exact h.perm (by ac_rfl)
      refine PGroups_spec h2 ?_
      simp only [show (ofL P.S P.S.L).groups = P.S.groups from rfl, decide_true, ↓o_nil, ↓o_field, ↓o_add, ↓o_sub, ↓o_mul, ↓o_lss, ↓o_leq, ↓o_gtr, ↓o_geq, ↓o_not, ↓o_pick, ↓o_eqInt, ↓o_neInt, ↓o_eqBool, ↓o_neBool, ↓o_eqPtr, ↓o_nePtr, ↓o_eqPtr', ↓o_eqSl, ↓o_neSl, ↓o_eqStr, ↓o_neStr, ↓o_len, ↓o_lenS, ↓o_min, ↓o_max, ↓o_extract, ↓o_convInt, ↓cd_true, ↓cd_false, ↓gate_tt, ↓gate_ff, ↓gate_tf, ↓gate_ft, ↓gate_undef, ↓o_bind, ↓stay_v, ↓pop_cons, ↓fin_nil, Option.isNone_none, Option.isNone_some, Bool.not_true, Bool.not_false, Nat.zero_add, decide_true, decide_false, if_true, if_false, Bool.false_eq_true, ↓reduceIte]
      unfold lgI at h2
      exact k w h2.drop.drop.drop.drop.drop.drop
  by_cases h1 : (i : Int) < (l.length : Int)
  · by_cases h2 : (i : Int) < 60
    · simp only [h1, h2, ↓o_nil, ↓o_field, ↓o_add, ↓o_sub, ↓o_mul, ↓o_lss, ↓o_leq, ↓o_gtr, ↓o_geq, ↓o_not, ↓o_pick, ↓o_eqInt, ↓o_neInt, ↓o_eqBool, ↓o_neBool, ↓o_eqPtr, ↓o_nePtr, ↓o_eqPtr', ↓o_eqSl, ↓o_neSl, ↓o_eqStr, ↓o_neStr, ↓o_len, ↓o_lenS, ↓o_min, ↓o_max, ↓o_extract, ↓o_convInt, ↓cd_true, ↓cd_false, ↓gate_tt, ↓gate_ff, ↓gate_tf, ↓gate_ft, ↓gate_undef, ↓o_bind, ↓stay_v, ↓pop_cons, ↓fin_nil, Option.isNone_none, Option.isNone_some, Bool.not_true, Bool.not_false, Nat.zero_add, decide_true, decide_false, if_true, if_false, Bool.false_eq_true, ↓reduceIte]
      have hlt : i < l.length := by omega
      have hrd : Rds (pts wb (.cells (want.map bv).toArray 5 (0, 0)) * (pgr A P * H)) (.slice al l.length cl) l.length (l.map bv) := hl.right.right
      obtain ⟨b5, o5, rfl, hb5⟩ := win_cell (hrd.win h) (j := i) (by rw [List.length_map]; omega)
      rw [o_index (by omega) (by omega)]
      simp only [Int.toNat_natCast, Nat.mul_one]
      refine ld_cell hb5 ?_
      rw [List.getElem_map]
      have hx8 := (l[i]).toNat_lt
      simp only [bv, ↓o_nil, ↓o_field, ↓o_add, ↓o_sub, ↓o_mul, ↓o_lss, ↓o_leq, ↓o_gtr, ↓o_geq, ↓o_not, ↓o_pick, ↓o_eqInt, ↓o_neInt, ↓o_eqBool, ↓o_neBool, ↓o_eqPtr, ↓o_nePtr, ↓o_eqPtr', ↓o_eqSl, ↓o_neSl, ↓o_eqStr, ↓o_neStr, ↓o_len, ↓o_lenS, ↓o_min, ↓o_max, ↓o_extract, ↓o_convInt, ↓cd_true, ↓cd_false, ↓gate_tt, ↓gate_ff, ↓gate_tf, ↓gate_ft, ↓gate_undef, ↓o_bind, ↓stay_v, ↓pop_cons, ↓fin_nil, Option.isNone_none, Option.isNone_some, Bool.not_true, Bool.not_false, Nat.zero_add, decide_true, decide_false, if_true, if_false, Bool.false_eq_true, ↓reduceIte]
      rw [i64_of (n := ((l[i]).toNat : Int)) (by omega) (by omega), o_rem (by decide)]
      have hmod : (((l[i]).toNat : Nat) : Int).tmod 14 = (((l[i]).toNat % 14 : Nat) : Int) := by rw [Int.tmod_eq_emod_of_nonneg (by omega)]; omega
      rw [hmod]
      have hn : (l[i]).toNat % 14 < 14 := Nat.mod_lt _ (by decide)
      generalize (l[i]).toNat % 14 = n at hn ⊢
      refine make_sl h rfl (by omega) (by omega) (by omega) (by omega) fun bb w h => ?_
      have e3 : (256 : Int).toNat = 256 := rfl
      rw [e3] at h ⊢
      rw [zeros_map] at h
      try simp only [↓o_nil, ↓o_field, ↓o_add, ↓o_sub, ↓o_mul, ↓o_lss, ↓o_leq, ↓o_gtr, ↓o_geq, ↓o_not, ↓o_pick, ↓o_eqInt, ↓o_neInt, ↓o_eqBool, ↓o_neBool, ↓o_eqPtr, ↓o_nePtr, ↓o_eqPtr', ↓o_eqSl, ↓o_neSl, ↓o_eqStr, ↓o_neStr, ↓o_len, ↓o_lenS, ↓o_min, ↓o_max, ↓o_extract, ↓o_convInt, ↓cd_true, ↓cd_false, ↓gate_tt, ↓gate_ff, ↓gate_tf, ↓gate_ft, ↓gate_undef, ↓o_bind, ↓stay_v, ↓pop_cons, ↓fin_nil, Option.isNone_none, Option.isNone_some, Bool.not_true, Bool.not_false, Nat.zero_add, decide_true, decide_false, if_true, if_false, Bool.false_eq_true, ↓reduceIte]
      rw [i64_of (n := (i : Int) + 1) (by omega) (by omega), show (i : Int) + 1 = ((i + 1 : Nat) : Int) by omega, bv_of, o_index (by omega) (by omega)]
      simp only [Int.toNat_zero, Nat.zero_mul, Nat.add_zero]
      refine store_sl (b := bb) h rfl (by simp [zeros]) fun w h => ?_
      rw [← List.map_set] at h
      generalize hbx : UInt8.ofNat (i + 1) = bx at h ⊢
      have hpl : (zeros.set 0 bx).length = 256 := by simp [zeros]
      have hp0 : (zeros.set 0 bx)[0]? = some bx := by simp [zeros]
      obtain ⟨s1, s2, gs', kp'⟩ := kp.step hn hpl hp0
      have h := osl_of (n := 256) (sz := 1) h (by rw [List.length_map, hpl]) (by omega)
      have h : sat E w (pgr A P * (osl 5 1 (.slice (some ⟨bb, 0, none⟩) 256 256) 256 ((zeros.set 0 bx).map bv) * (pts wb (.cells (want.map bv).toArray 5 (0, 0)) * H))) := h.perm (by ac_rfl)
      refine PGroups_spec h ?_
      refine PWrite_spec kp.ok h (b := zeros.set 0 bx) (by rw [hpl]; exact Rds.own) (by omega) fun w h => ?_
      have hw : writeP P n (zeros.set 0 bx) = writeT P n (zeros.set 0 bx) := by unfold writeP; rw [if_pos s1]
      rw [s1]
      rw [hw] at h
      simp only [↓o_nil, ↓o_field, ↓o_add, ↓o_sub, ↓o_mul, ↓o_lss, ↓o_leq, ↓o_gtr, ↓o_geq, ↓o_not, ↓o_pick, ↓o_eqInt, ↓o_neInt, ↓o_eqBool, ↓o_neBool, ↓o_eqPtr, ↓o_nePtr, ↓o_eqPtr', ↓o_eqSl, ↓o_neSl, ↓o_eqStr, ↓o_neStr, ↓o_len, ↓o_lenS, ↓o_min, ↓o_max, ↓o_extract, ↓o_convInt, ↓cd_true, ↓cd_false, ↓gate_tt, ↓gate_ff, ↓gate_tf, ↓gate_ft, ↓gate_undef, ↓o_bind, ↓stay_v, ↓pop_cons, ↓fin_nil, Option.isNone_none, Option.isNone_some, Bool.not_true, Bool.not_false, Nat.zero_add, decide_true, decide_false, if_true, if_false, Bool.false_eq_true, ↓reduceIte, decide_true, Bool.not_true]
      have ok1 := kp.ok.write s1
      refine PCommit_spec ok1 h (by show P.S.W.length ≤ 890000; omega) (by show P.S.groups < 2 ^ 40; omega) fun w h => ?_
      rw [s2]
      simp only [↓o_nil, ↓o_field, ↓o_add, ↓o_sub, ↓o_mul, ↓o_lss, ↓o_leq, ↓o_gtr, ↓o_geq, ↓o_not, ↓o_pick, ↓o_eqInt, ↓o_neInt, ↓o_eqBool, ↓o_neBool, ↓o_eqPtr, ↓o_nePtr, ↓o_eqPtr', ↓o_eqSl, ↓o_neSl, ↓o_eqStr, ↓o_neStr, ↓o_len, ↓o_lenS, ↓o_min, ↓o_max, ↓o_extract, ↓o_convInt, ↓cd_true, ↓cd_false, ↓gate_tt, ↓gate_ff, ↓gate_tf, ↓gate_ft, ↓gate_undef, ↓o_bind, ↓stay_v, ↓pop_cons, ↓fin_nil, Option.isNone_none, Option.isNone_some, Bool.not_true, Bool.not_false, Nat.zero_add, decide_true, decide_false, if_true, if_false, Bool.false_eq_true, ↓reduceIte, decide_true, Bool.not_true]
      generalize hP2 : comP (writeT P n (zeros.set 0 bx)) = P2 at h kp'
      refine PGroups_spec h ?_
      try simp only [↓o_nil, ↓o_field, ↓o_add, ↓o_sub, ↓o_mul, ↓o_lss, ↓o_leq, ↓o_gtr, ↓o_geq, ↓o_not, ↓o_pick, ↓o_eqInt, ↓o_neInt, ↓o_eqBool, ↓o_neBool, ↓o_eqPtr, ↓o_nePtr, ↓o_eqPtr', ↓o_eqSl, ↓o_neSl, ↓o_eqStr, ↓o_neStr, ↓o_len, ↓o_lenS, ↓o_min, ↓o_max, ↓o_extract, ↓o_convInt, ↓cd_true, ↓cd_false, ↓gate_tt, ↓gate_ff, ↓gate_tf, ↓gate_ft, ↓gate_undef, ↓o_bind, ↓stay_v, ↓pop_cons, ↓fin_nil, Option.isNone_none, Option.isNone_some, Bool.not_true, Bool.not_false, Nat.zero_add, decide_true, decide_false, if_true, if_false, Bool.false_eq_true, ↓reduceIte]
      rw [kp'.g, kp.g, show ((i + 1 : Nat) : Int) = (i : Int) + 1 by omega]
      try rw [i64_of (n := (i : Int) + 1) (by omega) (by omega)]
      simp only [↓o_nil, ↓o_field, ↓o_add, ↓o_sub, ↓o_mul, ↓o_lss, ↓o_leq, ↓o_gtr, ↓o_geq, ↓o_not, ↓o_pick, ↓o_eqInt, ↓o_neInt, ↓o_eqBool, ↓o_neBool, ↓o_eqPtr, ↓o_nePtr, ↓o_eqPtr', ↓o_eqSl, ↓o_neSl, ↓o_eqStr, ↓o_neStr, ↓o_len, ↓o_lenS, ↓o_min, ↓o_max, ↓o_extract, ↓o_convInt, ↓cd_true, ↓cd_false, ↓gate_tt, ↓gate_ff, ↓gate_tf, ↓gate_ft, ↓gate_undef, ↓o_bind, ↓stay_v, ↓pop_cons, ↓fin_nil, Option.isNone_none, Option.isNone_some, Bool.not_true, Bool.not_false, Nat.zero_add, decide_true, decide_false, if_true, if_false, Bool.false_eq_true, ↓reduceIte, decide_true, Bool.not_true]
      refine PUsed_spec h ?_
      have hu : ¬ (5 : Int) < (P2.S.used : Int) := by have := kp'.ok.i.ule; have := kp'.size; omega
      simp only [hu, ↓o_nil, ↓o_field, ↓o_add, ↓o_sub, ↓o_mul, ↓o_lss, ↓o_leq, ↓o_gtr, ↓o_geq, ↓o_not, ↓o_pick, ↓o_eqInt, ↓o_neInt, ↓o_eqBool, ↓o_neBool, ↓o_eqPtr, ↓o_nePtr, ↓o_eqPtr', ↓o_eqSl, ↓o_neSl, ↓o_eqStr, ↓o_neStr, ↓o_len, ↓o_lenS, ↓o_min, ↓o_max, ↓o_extract, ↓o_convInt, ↓cd_true, ↓cd_false, ↓gate_tt, ↓gate_ff, ↓gate_tf, ↓gate_ft, ↓gate_undef, ↓o_bind, ↓stay_v, ↓pop_cons, ↓fin_nil, Option.isNone_none, Option.isNone_some, Bool.not_true, Bool.not_false, Nat.zero_add, decide_true, decide_false, if_true, if_false, Bool.false_eq_true, ↓reduceIte]
      have h : sat E w (pts wb (.cells (want.map bv).toArray 5 (0, 0)) * (pgr A P2 * H)) := (h.perm (show _ = osl 5 1 (.slice (some ⟨bb, 0, none⟩) 256 256) 256 ((zeros.set 0 bx).map bv) * (pts wb (.cells (want.map bv).toArray 5 (0, 0)) * (pgr A P2 * H)) by ac_rfl)).drop
      rw [o_index (by omega) (by omega)]
      simp only [Int.toNat_natCast, Nat.mul_one, Nat.zero_add]
      refine store_sl (b := wb) h rfl (by rw [List.length_map]; omega) fun w h => ?_
      rw [← List.map_set] at h
      try simp only [↓o_nil, ↓o_field, ↓o_add, ↓o_sub, ↓o_mul, ↓o_lss, ↓o_leq, ↓o_gtr, ↓o_geq, ↓o_not, ↓o_pick, ↓o_eqInt, ↓o_neInt, ↓o_eqBool, ↓o_neBool, ↓o_eqPtr, ↓o_nePtr, ↓o_eqPtr', ↓o_eqSl, ↓o_neSl, ↓o_eqStr, ↓o_neStr, ↓o_len, ↓o_lenS, ↓o_min, ↓o_max, ↓o_extract, ↓o_convInt, ↓cd_true, ↓cd_false, ↓gate_tt, ↓gate_ff, ↓gate_tf, ↓gate_ft, ↓gate_undef, ↓o_bind, ↓stay_v, ↓pop_cons, ↓fin_nil, Option.isNone_none, Option.isNone_some, Bool.not_true, Bool.not_false, Nat.zero_add, decide_true, decide_false, if_true, if_false, Bool.false_eq_true, ↓reduceIte]
      try rw [i64_of (by omega) (by omega)]
      exact hag (60 - (i + 1)) _ _ (by omega) ⟨i + 1, P2, gs', want.set n bx, rfl, rfl, by omega, kp', h⟩
    · simp only [h1, h2, ↓o_nil, ↓o_field, ↓o_add, ↓o_sub, ↓o_mul, ↓o_lss, ↓o_leq, ↓o_gtr, ↓o_geq, ↓o_not, ↓o_pick, ↓o_eqInt, ↓o_neInt, ↓o_eqBool, ↓o_neBool, ↓o_eqPtr, ↓o_nePtr, ↓o_eqPtr', ↓o_eqSl, ↓o_neSl, ↓o_eqStr, ↓o_neStr, ↓o_len, ↓o_lenS, ↓o_min, ↓o_max, ↓o_extract, ↓o_convInt, ↓cd_true, ↓cd_false, ↓gate_tt, ↓gate_ff, ↓gate_tf, ↓gate_ft, ↓gate_undef, ↓o_bind, ↓stay_v, ↓pop_cons, ↓fin_nil, Option.isNone_none, Option.isNone_some, Bool.not_true, Bool.not_false, Nat.zero_add, decide_true, decide_false, if_true, if_false, Bool.false_eq_true, ↓reduceIte]
      exact hend w h
  · simp only [h1, ↓o_nil, ↓o_field, ↓o_add, ↓o_sub, ↓o_mul, ↓o_lss, ↓o_leq, ↓o_gtr, ↓o_geq, ↓o_not, ↓o_pick, ↓o_eqInt, ↓o_neInt, ↓o_eqBool, ↓o_neBool, ↓o_eqPtr, ↓o_nePtr, ↓o_eqPtr', ↓o_eqSl, ↓o_neSl, ↓o_eqStr, ↓o_neStr, ↓o_len, ↓o_lenS, ↓o_min, ↓o_max, ↓o_extract, ↓o_convInt, ↓cd_true, ↓cd_false, ↓gate_tt, ↓gate_ff, ↓gate_tf, ↓gate_ft, ↓gate_undef, ↓o_bind, ↓stay_v, ↓pop_cons, ↓fin_nil, Option.isNone_none, Option.isNone_some, Bool.not_true, Bool.not_false, Nat.zero_add, decide_true, decide_false, if_true, if_false, Bool.false_eq_true, ↓reduceIte]
    exact hend w h
end Go.Proofs.Ytgkeplodfkmnlaa.Worn
