/-
  WalCuts: the walk.
-/
import Derived.Test.YtgkeplodfkmnlaaGreatRlwF
set_option linter.all false
set_option maxRecDepth 100000
namespace Go.Proofs.YtgkeplodfkmnlaaGreat.Cuts
open Go Hold Go.ChangeShapes Go.WideShapes Go.ChangeAt Go.RowKit
variable {E : World0} {w : World} {H R : HP} {K : Value → World → Prop}
theorem Cuts_spec (h : sat E w H) (sz : UInt8) {lv : Value} (l : List Dd) (hl : Rds H lv l.length (l.flatMap dcells)) (hm : l.length ≤ 9223372036854775807) (hs : ∀ x ∈ l, OkD H x) (kk : Fin 65536)
    (k : ∀ w', sat E w' H → K (.bool true) w') : Calls prog 5 #[bv sz, lv, .int .u16 (kk.val : Int)] w (Ret K) := by
  obtain ⟨al, cl, rfl, hcl, hl, _⟩ := hl.shape h
  have hdl := dcells_length l
  refine c5 ?_
  unfold B5
  have hN : sz.toNat % 20 + 2 ≤ 21 := by omega
  simp only [bv, ↓o_nil, ↓o_field, ↓o_add, ↓o_sub, ↓o_mul, ↓o_lss, ↓o_leq, ↓o_gtr, ↓o_geq, ↓o_not, ↓o_pick, ↓o_eqInt, ↓o_neInt, ↓o_eqBool, ↓o_neBool, ↓o_eqPtr, ↓o_nePtr, ↓o_eqPtr', ↓o_eqSl, ↓o_neSl, ↓o_eqStr, ↓o_neStr, ↓o_len, ↓o_lenS, ↓o_min, ↓o_max, ↓o_extract, ↓o_convInt, ↓cd_true, ↓cd_false, ↓gate_tt, ↓gate_ff, ↓gate_tf, ↓gate_ft, ↓gate_undef, ↓o_bind, ↓stay_v, ↓pop_cons, ↓fin_nil, Option.isNone_none, Option.isNone_some, Bool.not_true, Bool.not_false, Nat.zero_add, decide_true, decide_false, if_true, if_false, Bool.false_eq_true, ↓reduceIte]
  rw [o_rem (by decide)]
  try simp only [↓o_nil, ↓o_field, ↓o_add, ↓o_sub, ↓o_mul, ↓o_lss, ↓o_leq, ↓o_gtr, ↓o_geq, ↓o_not, ↓o_pick, ↓o_eqInt, ↓o_neInt, ↓o_eqBool, ↓o_neBool, ↓o_eqPtr, ↓o_nePtr, ↓o_eqPtr', ↓o_eqSl, ↓o_neSl, ↓o_eqStr, ↓o_neStr, ↓o_len, ↓o_lenS, ↓o_min, ↓o_max, ↓o_extract, ↓o_convInt, ↓cd_true, ↓cd_false, ↓gate_tt, ↓gate_ff, ↓gate_tf, ↓gate_ft, ↓gate_undef, ↓o_bind, ↓stay_v, ↓pop_cons, ↓fin_nil, Option.isNone_none, Option.isNone_some, Bool.not_true, Bool.not_false, Nat.zero_add, decide_true, decide_false, if_true, if_false, Bool.false_eq_true, ↓reduceIte]
  rw [mod_size]
  have hN2 : 2 ≤ sz.toNat % 20 + 2 := by omega
  generalize sz.toNat % 20 + 2 = N at hN hN2 ⊢
  rw [i64_of (by omega) (by omega), show (N : Int) + 10 = ((N + 10 : Nat) : Int) by omega]
  refine open_spec h hN2 (by omega) (by omega) fun p d b m r w h => ?_
  try simp only [↓o_nil, ↓o_field, ↓o_add, ↓o_sub, ↓o_mul, ↓o_lss, ↓o_leq, ↓o_gtr, ↓o_geq, ↓o_not, ↓o_pick, ↓o_eqInt, ↓o_neInt, ↓o_eqBool, ↓o_neBool, ↓o_eqPtr, ↓o_nePtr, ↓o_eqPtr', ↓o_eqSl, ↓o_neSl, ↓o_eqStr, ↓o_neStr, ↓o_len, ↓o_lenS, ↓o_min, ↓o_max, ↓o_extract, ↓o_convInt, ↓cd_true, ↓cd_false, ↓gate_tt, ↓gate_ff, ↓gate_tf, ↓gate_ft, ↓gate_undef, ↓o_bind, ↓stay_v, ↓pop_cons, ↓fin_nil, Option.isNone_none, Option.isNone_some, Bool.not_true, Bool.not_false, Nat.zero_add, decide_true, decide_false, if_true, if_false, Bool.false_eq_true, ↓reduceIte]
  refine live_spec h fun w h => ?_
  try simp only [↓o_nil, ↓o_field, ↓o_add, ↓o_sub, ↓o_mul, ↓o_lss, ↓o_leq, ↓o_gtr, ↓o_geq, ↓o_not, ↓o_pick, ↓o_eqInt, ↓o_neInt, ↓o_eqBool, ↓o_neBool, ↓o_eqPtr, ↓o_nePtr, ↓o_eqPtr', ↓o_eqSl, ↓o_neSl, ↓o_eqStr, ↓o_neStr, ↓o_len, ↓o_lenS, ↓o_min, ↓o_max, ↓o_extract, ↓o_convInt, ↓cd_true, ↓cd_false, ↓gate_tt, ↓gate_ff, ↓gate_tf, ↓gate_ft, ↓gate_undef, ↓o_bind, ↓stay_v, ↓pop_cons, ↓fin_nil, Option.isNone_none, Option.isNone_some, Bool.not_true, Bool.not_false, Nat.zero_add, decide_true, decide_false, if_true, if_false, Bool.false_eq_true, ↓reduceIte]
  have B0 : Both (newL (N + 10) N) [] (List.replicate (N + 10) zeros) [] 0 0 N 0 := ⟨Far.start hN2 hN, ⟨Z_wf (by omega) (by omega), hN2, by simp, Nat.zero_le _⟩, by simp, rfl, by simp, Nat.le_refl _⟩
  by_cases h0 : l.length = 0
  · simp only [h0, Int.natCast_zero, ↓o_nil, ↓o_field, ↓o_add, ↓o_sub, ↓o_mul, ↓o_lss, ↓o_leq, ↓o_gtr, ↓o_geq, ↓o_not, ↓o_pick, ↓o_eqInt, ↓o_neInt, ↓o_eqBool, ↓o_neBool, ↓o_eqPtr, ↓o_nePtr, ↓o_eqPtr', ↓o_eqSl, ↓o_neSl, ↓o_eqStr, ↓o_neStr, ↓o_len, ↓o_lenS, ↓o_min, ↓o_max, ↓o_extract, ↓o_convInt, ↓cd_true, ↓cd_false, ↓gate_tt, ↓gate_ff, ↓gate_tf, ↓gate_ft, ↓gate_undef, ↓o_bind, ↓stay_v, ↓pop_cons, ↓fin_nil, Option.isNone_none, Option.isNone_some, Bool.not_true, Bool.not_false, Nat.zero_add, decide_true, decide_false, if_true, if_false, Bool.false_eq_true, ↓reduceIte]
    refine live_spec h fun w h => ?_
    simp only [↓o_nil, ↓o_field, ↓o_add, ↓o_sub, ↓o_mul, ↓o_lss, ↓o_leq, ↓o_gtr, ↓o_geq, ↓o_not, ↓o_pick, ↓o_eqInt, ↓o_neInt, ↓o_eqBool, ↓o_neBool, ↓o_eqPtr, ↓o_nePtr, ↓o_eqPtr', ↓o_eqSl, ↓o_neSl, ↓o_eqStr, ↓o_neStr, ↓o_len, ↓o_lenS, ↓o_min, ↓o_max, ↓o_extract, ↓o_convInt, ↓cd_true, ↓cd_false, ↓gate_tt, ↓gate_ff, ↓gate_tf, ↓gate_ft, ↓gate_undef, ↓o_bind, ↓stay_v, ↓pop_cons, ↓fin_nil, Option.isNone_none, Option.isNone_some, Bool.not_true, Bool.not_false, Nat.zero_add, decide_true, decide_false, if_true, if_false, Bool.false_eq_true, ↓reduceIte]
    unfold lgI rlI at h
    exact k w h.drop.drop.drop.drop.drop
  have h0' : ¬ (l.length : Int) = 0 := by omega
  simp only [h0', ↓o_nil, ↓o_field, ↓o_add, ↓o_sub, ↓o_mul, ↓o_lss, ↓o_leq, ↓o_gtr, ↓o_geq, ↓o_not, ↓o_pick, ↓o_eqInt, ↓o_neInt, ↓o_eqBool, ↓o_neBool, ↓o_eqPtr, ↓o_nePtr, ↓o_eqPtr', ↓o_eqSl, ↓o_neSl, ↓o_eqStr, ↓o_neStr, ↓o_len, ↓o_lenS, ↓o_min, ↓o_max, ↓o_extract, ↓o_convInt, ↓cd_true, ↓cd_false, ↓gate_tt, ↓gate_ff, ↓gate_tf, ↓gate_ft, ↓gate_undef, ↓o_bind, ↓stay_v, ↓pop_cons, ↓fin_nil, Option.isNone_none, Option.isNone_some, Bool.not_true, Bool.not_false, Nat.zero_add, decide_true, decide_false, if_true, if_false, Bool.false_eq_true, ↓reduceIte]
  refine lp_nat (fun q σ w => ∃ (i : Nat) (S : Lg) (gs : List (List Int)) (V : List (Int × Bs)) (hd fu : Nat), σ = [.int .i64 i] ∧ q = 20 - i ∧ i ≤ 20 ∧ Both S gs (List.replicate (N + 10) zeros) V hd fu N i ∧ sat E w (lgI p d b S (rlI m r (List.replicate (N + 10) zeros) V N hd fu H))) 20 ⟨0, _, [], [], 0, 0, rfl, rfl, by omega, B0, h⟩ ?_
  clear h
  rintro q σ w again ⟨i, S, gs, V, hd, fu, rfl, rfl, hi, B, h⟩ hag
  try simp only [↓o_nil, ↓o_field, ↓o_add, ↓o_sub, ↓o_mul, ↓o_lss, ↓o_leq, ↓o_gtr, ↓o_geq, ↓o_not, ↓o_pick, ↓o_eqInt, ↓o_neInt, ↓o_eqBool, ↓o_neBool, ↓o_eqPtr, ↓o_nePtr, ↓o_eqPtr', ↓o_eqSl, ↓o_neSl, ↓o_eqStr, ↓o_neStr, ↓o_len, ↓o_lenS, ↓o_min, ↓o_max, ↓o_extract, ↓o_convInt, ↓cd_true, ↓cd_false, ↓gate_tt, ↓gate_ff, ↓gate_tf, ↓gate_ft, ↓gate_undef, ↓o_bind, ↓stay_v, ↓pop_cons, ↓fin_nil, Option.isNone_none, Option.isNone_some, Bool.not_true, Bool.not_false, Nat.zero_add, decide_true, decide_false, if_true, if_false, Bool.false_eq_true, ↓reduceIte]
  have hfl := B.f.len; have hfw := B.f.w; have hfg := B.f.g; have hfew := B.f.i.few; have hsz := B.f.size
  rw [i64_of (n := (l.length : Int) - 1) (by omega) (by omega)]
  have hpg : S.pages = 9 := by unfold Lg.pages; omega
  have hend : (
    Calls prog 10 #[(.pointer (some ⟨p, 0, none⟩))] w (Ret fun t_33 w =>
    Calls prog 17 #[(.pointer (some ⟨p, 0, none⟩))] w (Ret fun t_34 w =>
    Calls prog 20 #[t_34] w (Ret fun t_35 w =>
    pv prog (oBi .len #[22] 3 #[false] #[(.slice al l.length cl)]) w fun t_36 w =>
    pvv prog (binOp .sub 3 t_36 (.int .i64 1)) w fun t_37 w =>
    pvv prog (Instr.indexAt 22 (.slice al l.length cl) t_37) w fun t_38 w =>
    ldv prog (Instr.loadAt 31 t_38) w fun t_39 w =>
    efv prog (Instr.alloc 31 true (.tuple #[])) w fun last_40 w =>
    efu prog (Instr.storeAt 31 last_40 t_39) w fun u_41 w =>
    ldv prog (Instr.loadAt 31 last_40) w fun t_42 w =>
    Calls prog 9 #[(.pointer (some ⟨p, 0, none⟩)), (.pointer (some ⟨m, 0, none⟩)), t_42] w (Ret fun t_43 w =>
    pvv prog (Op.unary .not t_43) w fun t_44 w =>
    cd t_44 (
      K (.bool false) w) <|
    Calls prog 10 #[(.pointer (some ⟨p, 0, none⟩))] w (Ret fun t_45 w =>
    Calls prog 17 #[(.pointer (some ⟨p, 0, none⟩))] w (Ret fun t_46 w =>
    pvv prog (convert 45 3 (.int .u16 (kk.val : Int))) w fun t_47 w =>
    Calls prog 20 #[t_46] w (Ret fun t_48 w =>
    pvv prog (binOp .sub 3 t_48 t_35) w fun t_49 w =>
    pvv prog (binOp .add 3 t_49 (.int .i64 1)) w fun t_50 w =>
    pvv prog (binOp .rem 3 t_47 t_50) w fun t_51 w =>
    pvv prog (binOp .add 3 t_35 t_51) w fun t_52 w =>
    Calls prog 21 #[t_46, t_52] w (Ret fun t_53 w =>
    pvv prog (Instr.extract t_53 0) w fun t_54 w =>
    pvv prog (Instr.extract t_53 1) w fun t_55 w =>
    Calls prog 16 #[t_54, (.int .i64 N)] w (Ret fun t_56 w =>
    pvv prog (Instr.extract t_56 0) w fun t_57 w =>
    pvv prog (Instr.extract t_56 1) w fun t_58 w =>
    pvv prog (oEq .neq 34 (.tmp 110) (.const (.int .i64 0)) t_55 (.int .i64 0)) w fun t_59 w =>
    gate (some (t_59, false)) (fun K => K t_58 w) w fun t_60 w =>
    gate (some (t_59, false)) (fun K => pvv prog (oEq .neq 34 (.tmp 113) (.const (.int .i64 0)) t_60 (.int .i64 0)) w K) w fun t_61 w =>
    pv prog (oPick t_59 (.bool true) t_61) w fun t_62 w =>
    cd t_62 (
      K (.bool false) w) <|
    Calls prog 20 #[t_46] w (Ret fun t_63 w =>
    pvv prog (oEq .eql 3 (.tmp 116) (.tmp 118) t_52 t_63) w fun t_64 w =>
    cd t_64 (
      Calls prog 10 #[t_57] w (Ret fun t_65 w =>
      Calls prog 15 #[t_65, t_45] w (Ret fun t_66 w =>
      K t_66 w))) <|
    Calls prog 10 #[t_57] w (Ret fun t_67 w =>
    Calls prog 15 #[t_67, t_33] w (Ret fun t_68 w =>
    K t_68 w))))))))))))) := by
    refine All_spec B.f.i h (by omega) fun v vs w h => ?_
    have h : sat E w (lgI p d b S (osl 60 1 v S.all.length vs * (pers (immAll vs S.all) * rlI m r (List.replicate (N + 10) zeros) V N hd fu H))) := by
      unfold lgI at h ⊢
      exact h.perm (by ac_rfl)
    refine Disk_spec h (by omega) (by omega) fun f w h => ?_
    refine Count_spec h ?_
    have h := h.drop
    try simp only [↓o_nil, ↓o_field, ↓o_add, ↓o_sub, ↓o_mul, ↓o_lss, ↓o_leq, ↓o_gtr, ↓o_geq, ↓o_not, ↓o_pick, ↓o_eqInt, ↓o_neInt, ↓o_eqBool, ↓o_neBool, ↓o_eqPtr, ↓o_nePtr, ↓o_eqPtr', ↓o_eqSl, ↓o_neSl, ↓o_eqStr, ↓o_neStr, ↓o_len, ↓o_lenS, ↓o_min, ↓o_max, ↓o_extract, ↓o_convInt, ↓cd_true, ↓cd_false, ↓gate_tt, ↓gate_ff, ↓gate_tf, ↓gate_ft, ↓gate_undef, ↓o_bind, ↓stay_v, ↓pop_cons, ↓fin_nil, Option.isNone_none, Option.isNone_some, Bool.not_true, Bool.not_false, Nat.zero_add, decide_true, decide_false, if_true, if_false, Bool.false_eq_true, ↓reduceIte]
    rw [i64_of (n := (l.length : Int) - 1) (by omega) (by omega), show (l.length : Int) - 1 = ((l.length - 1 : Nat) : Int) by omega]
    have hlt : l.length - 1 < l.length := by omega
    have hx := hs _ (List.getElem_mem hlt)
    have hrd : Rds (lgI p d b S (osl 60 1 v S.all.length vs * (pers (immAll vs S.all) * rlI m r (List.replicate (N + 10) zeros) V N hd fu H))) (.slice al l.length cl) l.length (l.flatMap dcells) := by unfold lgI rlI; exact hl.right.right.right.right.right.right.right
    obtain ⟨b1, o1, rfl, _⟩ := win_cell (hrd.win h) (j := (l.length - 1) * 4) (by omega)
    rw [o_index (by omega) (by omega)]
    simp only [Int.toNat_natCast, ↓o_nil, ↓o_field, ↓o_add, ↓o_sub, ↓o_mul, ↓o_lss, ↓o_leq, ↓o_gtr, ↓o_geq, ↓o_not, ↓o_pick, ↓o_eqInt, ↓o_neInt, ↓o_eqBool, ↓o_neBool, ↓o_eqPtr, ↓o_nePtr, ↓o_eqPtr', ↓o_eqSl, ↓o_neSl, ↓o_eqStr, ↓o_neStr, ↓o_len, ↓o_lenS, ↓o_min, ↓o_max, ↓o_extract, ↓o_convInt, ↓cd_true, ↓cd_false, ↓gate_tt, ↓gate_ff, ↓gate_tf, ↓gate_ft, ↓gate_undef, ↓o_bind, ↓stay_v, ↓pop_cons, ↓fin_nil, Option.isNone_none, Option.isNone_some, Bool.not_true, Bool.not_false, Nat.zero_add, decide_true, decide_false, if_true, if_false, Bool.false_eq_true, ↓reduceIte]
    refine ld_el h hrd ((l.length - 1) * 4) rfl (dcells l[l.length - 1]) rfl (dd_at hlt) ?_
    refine alloc_sl h fun lb w h => ?_
    have hone : ∀ y ∈ dcells l[l.length - 1], y.oneCell' = true := by
      obtain ⟨_, _, e, _⟩ := hx.rd.shape (show sat E w H by unfold lgI rlI at h; exact h.drop.drop.drop.drop.drop.drop.drop.drop)
      intro y hy
      simp only [dcells, List.mem_cons, List.not_mem_nil, or_false] at hy
      rcases hy with rfl | rfl | rfl | rfl
      · rfl
      · rfl
      · rw [e]; rfl
      · rfl
    refine store_all (b := lb) h rfl rfl hone fun w h => ?_
    refine ld_agg (b := lb) h rfl ?_
    have h : sat E w (lgI p d b S (rlI m r (List.replicate (N + 10) zeros) V N hd fu (osl 60 1 v S.all.length vs * (pers (immAll vs S.all) * H)))) := by
      have h := h.drop
      unfold lgI rlI at h ⊢
      exact h.perm (by ac_rfl)
    refine Do_spec B (by omega) h l[l.length - 1] ⟨hx.rd.right.right, hx.len⟩ fun gs' V' hd' fu' w B' h => ?_
    try simp only [↓o_nil, ↓o_field, ↓o_add, ↓o_sub, ↓o_mul, ↓o_lss, ↓o_leq, ↓o_gtr, ↓o_geq, ↓o_not, ↓o_pick, ↓o_eqInt, ↓o_neInt, ↓o_eqBool, ↓o_neBool, ↓o_eqPtr, ↓o_nePtr, ↓o_eqPtr', ↓o_eqSl, ↓o_neSl, ↓o_eqStr, ↓o_neStr, ↓o_len, ↓o_lenS, ↓o_min, ↓o_max, ↓o_extract, ↓o_convInt, ↓cd_true, ↓cd_false, ↓gate_tt, ↓gate_ff, ↓gate_tf, ↓gate_ft, ↓gate_undef, ↓o_bind, ↓stay_v, ↓pop_cons, ↓fin_nil, Option.isNone_none, Option.isNone_some, Bool.not_true, Bool.not_false, Nat.zero_add, decide_true, decide_false, if_true, if_false, Bool.false_eq_true, ↓reduceIte]
    have hdw := do_W S l[l.length - 1]
    have hfl' := B'.f.len; have hfw' := B'.f.w; have hfg' := B'.f.g; have hsz' := B'.f.size
    generalize hT : doS S l[l.length - 1] = T at h B' hdw hfl' hfw' hfg' hsz'
    have hpg' : T.pages = 9 := by unfold Lg.pages; omega
    refine All_spec B'.f.i h (by omega) fun v2 vs2 w h => ?_
    have h : sat E w (lgI p d b T (osl 60 1 v2 T.all.length vs2 * (pers (immAll vs2 T.all) * (osl 60 1 v S.all.length vs * (pers (immAll vs S.all) * rlI m r (List.replicate (N + 10) zeros) V' N hd' fu' H))))) := by
      unfold lgI rlI at h ⊢
      exact h.perm (by ac_rfl)
    refine Disk_spec h (by omega) (by omega) fun f2 w h => ?_
    try simp only [↓o_nil, ↓o_field, ↓o_add, ↓o_sub, ↓o_mul, ↓o_lss, ↓o_leq, ↓o_gtr, ↓o_geq, ↓o_not, ↓o_pick, ↓o_eqInt, ↓o_neInt, ↓o_eqBool, ↓o_neBool, ↓o_eqPtr, ↓o_nePtr, ↓o_eqPtr', ↓o_eqSl, ↓o_neSl, ↓o_eqStr, ↓o_neStr, ↓o_len, ↓o_lenS, ↓o_min, ↓o_max, ↓o_extract, ↓o_convInt, ↓cd_true, ↓cd_false, ↓gate_tt, ↓gate_ff, ↓gate_tf, ↓gate_ft, ↓gate_undef, ↓o_bind, ↓stay_v, ↓pop_cons, ↓fin_nil, Option.isNone_none, Option.isNone_some, Bool.not_true, Bool.not_false, Nat.zero_add, decide_true, decide_false, if_true, if_false, Bool.false_eq_true, ↓reduceIte]
    have hkk := kk.2
    rw [i64_of (n := (kk.1 : Int)) (by omega) (by omega)]
    refine Count_spec h ?_
    try simp only [↓o_nil, ↓o_field, ↓o_add, ↓o_sub, ↓o_mul, ↓o_lss, ↓o_leq, ↓o_gtr, ↓o_geq, ↓o_not, ↓o_pick, ↓o_eqInt, ↓o_neInt, ↓o_eqBool, ↓o_neBool, ↓o_eqPtr, ↓o_nePtr, ↓o_eqPtr', ↓o_eqSl, ↓o_neSl, ↓o_eqStr, ↓o_neStr, ↓o_len, ↓o_lenS, ↓o_min, ↓o_max, ↓o_extract, ↓o_convInt, ↓cd_true, ↓cd_false, ↓gate_tt, ↓gate_ff, ↓gate_tf, ↓gate_ft, ↓gate_undef, ↓o_bind, ↓stay_v, ↓pop_cons, ↓fin_nil, Option.isNone_none, Option.isNone_some, Bool.not_true, Bool.not_false, Nat.zero_add, decide_true, decide_false, if_true, if_false, Bool.false_eq_true, ↓reduceIte]
    rw [i64_of (n := (T.W.length : Int) - (S.W.length : Int)) (by omega) (by omega), i64_of (n := (T.W.length : Int) - (S.W.length : Int) + 1) (by omega) (by omega), o_rem (by omega)]
    have hmod : ((kk.1 : Nat) : Int).tmod ((T.W.length : Int) - (S.W.length : Int) + 1) = ((kk.1 % (T.W.length - S.W.length + 1) : Nat) : Int) := by
      rw [show (T.W.length : Int) - (S.W.length : Int) + 1 = ((T.W.length - S.W.length + 1 : Nat) : Int) by omega, Int.tmod_eq_emod_of_nonneg (by omega)]; omega
    rw [hmod]
    have hlt2 : kk.1 % (T.W.length - S.W.length + 1) < T.W.length - S.W.length + 1 := Nat.mod_lt _ (by omega)
    generalize kk.1 % (T.W.length - S.W.length + 1) = z at hlt2 ⊢
    try simp only [↓o_nil, ↓o_field, ↓o_add, ↓o_sub, ↓o_mul, ↓o_lss, ↓o_leq, ↓o_gtr, ↓o_geq, ↓o_not, ↓o_pick, ↓o_eqInt, ↓o_neInt, ↓o_eqBool, ↓o_neBool, ↓o_eqPtr, ↓o_nePtr, ↓o_eqPtr', ↓o_eqSl, ↓o_neSl, ↓o_eqStr, ↓o_neStr, ↓o_len, ↓o_lenS, ↓o_min, ↓o_max, ↓o_extract, ↓o_convInt, ↓cd_true, ↓cd_false, ↓gate_tt, ↓gate_ff, ↓gate_tf, ↓gate_ft, ↓gate_undef, ↓o_bind, ↓stay_v, ↓pop_cons, ↓fin_nil, Option.isNone_none, Option.isNone_some, Bool.not_true, Bool.not_false, Nat.zero_add, decide_true, decide_false, if_true, if_false, Bool.false_eq_true, ↓reduceIte]
    rw [i64_of (by omega) (by omega), show (S.W.length : Int) + (z : Int) = ((S.W.length + z : Nat) : Int) by omega]
    obtain ⟨C, gs2, hC⟩ := cut_do B.f.i l[l.length - 1] (k := S.W.length + z) (gs' := gs') (by rw [hT]; exact B'.f.i) (by omega) (by rw [hT]; omega)
    rw [hT] at hC
    have hCs := hC.size; have hCg := hC.g
    have hCl : C.L.length = N + 10 := by rw [hC.l]; unfold hist; rw [undo_length]; exact hfl'
    have hCp : C.pages = 9 := by unfold Lg.pages; omega
    refine Cut_spec h B'.f.i.wf (by omega) (n := S.W.length + z) (by omega) fun d3 w h => ?_
    try simp only [↓o_nil, ↓o_field, ↓o_add, ↓o_sub, ↓o_mul, ↓o_lss, ↓o_leq, ↓o_gtr, ↓o_geq, ↓o_not, ↓o_pick, ↓o_eqInt, ↓o_neInt, ↓o_eqBool, ↓o_neBool, ↓o_eqPtr, ↓o_nePtr, ↓o_eqPtr', ↓o_eqSl, ↓o_neSl, ↓o_eqStr, ↓o_neStr, ↓o_len, ↓o_lenS, ↓o_min, ↓o_max, ↓o_extract, ↓o_convInt, ↓cd_true, ↓cd_false, ↓gate_tt, ↓gate_ff, ↓gate_tf, ↓gate_ft, ↓gate_undef, ↓o_bind, ↓stay_v, ↓pop_cons, ↓fin_nil, Option.isNone_none, Option.isNone_some, Bool.not_true, Bool.not_false, Nat.zero_add, decide_true, decide_false, if_true, if_false, Bool.false_eq_true, ↓reduceIte]
    have h : sat E w (dsk d3 C.L [] * (dsk f2 T.L T.W * (lgI p d b T (osl 60 1 v2 T.all.length vs2 * (pers (immAll vs2 T.all) * (osl 60 1 v S.all.length vs * (pers (immAll vs S.all) * rlI m r (List.replicate (N + 10) zeros) V' N hd' fu' H))))))) := by
      rw [hC.l]; exact h
    have hNC : N = C.size := by omega
    have wfC : Wf C.L [] := by have := hC.i.wf; rw [hC.w] at this; exact this
    have hopen : ∀ (Q : Nat) (K' : Value → World → Prop), Q = C.size → (∀ p d b w', sat E w' (lgI p d b C (dsk d3 C.L [] * (dsk f2 T.L T.W * (lgI p d b T (osl 60 1 v2 T.all.length vs2 * (pers (immAll vs2 T.all) * (osl 60 1 v S.all.length vs * (pers (immAll vs S.all) * rlI m r (List.replicate (N + 10) zeros) V' N hd' fu' H)))))))) → True) → True := fun _ _ _ _ => trivial
    clear hopen
    rw [show (Value.int .i64 (N : Int)) = Value.int .i64 (C.size : Int) by rw [hNC]]
    refine Open_spec (S := C) hC.i hC.w (by omega) (dd := d3) (W := []) h wfC fun p2 d2 b2 w h => ?_
    try simp only [↓o_nil, ↓o_field, ↓o_add, ↓o_sub, ↓o_mul, ↓o_lss, ↓o_leq, ↓o_gtr, ↓o_geq, ↓o_not, ↓o_pick, ↓o_eqInt, ↓o_neInt, ↓o_eqBool, ↓o_neBool, ↓o_eqPtr, ↓o_nePtr, ↓o_eqPtr', ↓o_eqSl, ↓o_neSl, ↓o_eqStr, ↓o_neStr, ↓o_len, ↓o_lenS, ↓o_min, ↓o_max, ↓o_extract, ↓o_convInt, ↓cd_true, ↓cd_false, ↓gate_tt, ↓gate_ff, ↓gate_tf, ↓gate_ft, ↓gate_undef, ↓o_bind, ↓stay_v, ↓pop_cons, ↓fin_nil, Option.isNone_none, Option.isNone_some, Bool.not_true, Bool.not_false, Nat.zero_add, decide_true, decide_false, if_true, if_false, Bool.false_eq_true, ↓reduceIte]
    have h : sat E w (dsk f2 T.L T.W * (lgI p2 d2 b2 C (osl 60 1 v2 T.all.length vs2 * (pers (immAll vs2 T.all) * (osl 60 1 v S.all.length vs * (pers (immAll vs S.all) * H)))))) := by
      have h := h.perm (show _ = (dsk d3 C.L [] * (pts p (.cells (lcells T d b).toArray 70 (0, 0)) * (dsk d T.L T.W * (omap b (mpA T.a) * (pts m (.cells (rcells r N hd' fu').toArray 108 (0, 0)) * rdsk r (List.replicate (N + 10) zeros) V'))))) * (dsk f2 T.L T.W * (lgI p2 d2 b2 C (osl 60 1 v2 T.all.length vs2 * (pers (immAll vs2 T.all) * (osl 60 1 v S.all.length vs * (pers (immAll vs S.all) * H)))))) by unfold lgI rlI; ac_rfl)
      exact h.drop
    refine Count_spec h ?_
    have h := h.drop
    have h256 : ∀ (U : Lg) (g : List (List Int)), LInv U g → U.all.length = U.pages ∧ ∀ x ∈ U.all, x.length ≤ 140737488355328 := fun U g iU => by
      refine ⟨by simp [Lg.all], fun x hx => ?_⟩
      obtain ⟨n, hn, rfl⟩ := List.mem_map.1 hx
      have hn := List.mem_range.1 hn
      have := iU.wf.l _ (List.getElem_mem (iU.place_lt hn))
      unfold Lg.view
      rw [getD_of (iU.place_lt hn)]; omega
    have hCa := h256 C gs2 hC.i
    try simp only [↓o_nil, ↓o_field, ↓o_add, ↓o_sub, ↓o_mul, ↓o_lss, ↓o_leq, ↓o_gtr, ↓o_geq, ↓o_not, ↓o_pick, ↓o_eqInt, ↓o_neInt, ↓o_eqBool, ↓o_neBool, ↓o_eqPtr, ↓o_nePtr, ↓o_eqPtr', ↓o_eqSl, ↓o_neSl, ↓o_eqStr, ↓o_neStr, ↓o_len, ↓o_lenS, ↓o_min, ↓o_max, ↓o_extract, ↓o_convInt, ↓cd_true, ↓cd_false, ↓gate_tt, ↓gate_ff, ↓gate_tf, ↓gate_ft, ↓gate_undef, ↓o_bind, ↓stay_v, ↓pop_cons, ↓fin_nil, Option.isNone_none, Option.isNone_some, Bool.not_true, Bool.not_false, Nat.zero_add, decide_true, decide_false, if_true, if_false, Bool.false_eq_true, ↓reduceIte]
    have hall : ∀ (K' : Value → World → Prop), (∀ v3 vs3 w', sat E w' (osl 60 1 v3 C.all.length vs3 * (osl 60 1 v2 T.all.length vs2 * (osl 60 1 v S.all.length vs * (pers (immAll vs3 C.all) * (pers (immAll vs2 T.all) * (pers (immAll vs S.all) * (lgI p2 d2 b2 C H))))))) → K' v3 w') → Calls prog 10 #[.pointer (some ⟨p2, 0, none⟩)] w (Ret K') := fun K' hK => by
      refine All_spec hC.i h (by omega) fun v3 vs3 w h => hK v3 vs3 w ?_
      unfold lgI at h ⊢
      exact h.perm (by ac_rfl)
    by_cases he : S.W.length + z = T.W.length
    · have he' : ((S.W.length + z : Nat) : Int) = (T.W.length : Int) := by omega
      simp only [he', ↓o_nil, ↓o_field, ↓o_add, ↓o_sub, ↓o_mul, ↓o_lss, ↓o_leq, ↓o_gtr, ↓o_geq, ↓o_not, ↓o_pick, ↓o_eqInt, ↓o_neInt, ↓o_eqBool, ↓o_neBool, ↓o_eqPtr, ↓o_nePtr, ↓o_eqPtr', ↓o_eqSl, ↓o_neSl, ↓o_eqStr, ↓o_neStr, ↓o_len, ↓o_lenS, ↓o_min, ↓o_max, ↓o_extract, ↓o_convInt, ↓cd_true, ↓cd_false, ↓gate_tt, ↓gate_ff, ↓gate_tf, ↓gate_ft, ↓gate_undef, ↓o_bind, ↓stay_v, ↓pop_cons, ↓fin_nil, Option.isNone_none, Option.isNone_some, Bool.not_true, Bool.not_false, Nat.zero_add, decide_true, decide_false, if_true, if_false, Bool.false_eq_true, ↓reduceIte]
      refine hall _ fun v3 vs3 w h => ?_
      refine SameAll_spec h (rdd_of2 h vs3 C.all) (rdd_of2 h vs2 T.all) (by omega) hCa.2 fun w h => ?_
      rw [hC.last he, decide_eq_true rfl]
      unfold lgI at h
      exact k w h.drop.drop.drop.drop.drop.drop.drop.drop.drop
    · have he' : ¬ ((S.W.length + z : Nat) : Int) = (T.W.length : Int) := by omega
      simp only [he', ↓o_nil, ↓o_field, ↓o_add, ↓o_sub, ↓o_mul, ↓o_lss, ↓o_leq, ↓o_gtr, ↓o_geq, ↓o_not, ↓o_pick, ↓o_eqInt, ↓o_neInt, ↓o_eqBool, ↓o_neBool, ↓o_eqPtr, ↓o_nePtr, ↓o_eqPtr', ↓o_eqSl, ↓o_neSl, ↓o_eqStr, ↓o_neStr, ↓o_len, ↓o_lenS, ↓o_min, ↓o_max, ↓o_extract, ↓o_convInt, ↓cd_true, ↓cd_false, ↓gate_tt, ↓gate_ff, ↓gate_tf, ↓gate_ft, ↓gate_undef, ↓o_bind, ↓stay_v, ↓pop_cons, ↓fin_nil, Option.isNone_none, Option.isNone_some, Bool.not_true, Bool.not_false, Nat.zero_add, decide_true, decide_false, if_true, if_false, Bool.false_eq_true, ↓reduceIte]
      refine hall _ fun v3 vs3 w h => ?_
      refine SameAll_spec h (rdd_of2 h vs3 C.all) (rdd_of2 h vs S.all) (by omega) hCa.2 fun w h => ?_
      rw [hC.ahead he, decide_eq_true rfl]
      unfold lgI at h
      exact k w h.drop.drop.drop.drop.drop.drop.drop.drop.drop
  simp only [↓o_nil, ↓o_field, ↓o_add, ↓o_sub, ↓o_mul, ↓o_lss, ↓o_leq, ↓o_gtr, ↓o_geq, ↓o_not, ↓o_pick, ↓o_eqInt, ↓o_neInt, ↓o_eqBool, ↓o_neBool, ↓o_eqPtr, ↓o_nePtr, ↓o_eqPtr', ↓o_eqSl, ↓o_neSl, ↓o_eqStr, ↓o_neStr, ↓o_len, ↓o_lenS, ↓o_min, ↓o_max, ↓o_extract, ↓o_convInt, ↓cd_true, ↓cd_false, ↓gate_tt, ↓gate_ff, ↓gate_tf, ↓gate_ft, ↓gate_undef, ↓o_bind, ↓stay_v, ↓pop_cons, ↓fin_nil, Option.isNone_none, Option.isNone_some, Bool.not_true, Bool.not_false, Nat.zero_add, decide_true, decide_false, if_true, if_false, Bool.false_eq_true, ↓reduceIte] at hend
  rw [i64_of (n := (l.length : Int) - 1) (by omega) (by omega)] at hend
  by_cases h1 : (i : Int) < (l.length : Int) - 1
  · by_cases h2 : (i : Int) < 20
    · simp only [h1, h2, ↓o_nil, ↓o_field, ↓o_add, ↓o_sub, ↓o_mul, ↓o_lss, ↓o_leq, ↓o_gtr, ↓o_geq, ↓o_not, ↓o_pick, ↓o_eqInt, ↓o_neInt, ↓o_eqBool, ↓o_neBool, ↓o_eqPtr, ↓o_nePtr, ↓o_eqPtr', ↓o_eqSl, ↓o_neSl, ↓o_eqStr, ↓o_neStr, ↓o_len, ↓o_lenS, ↓o_min, ↓o_max, ↓o_extract, ↓o_convInt, ↓cd_true, ↓cd_false, ↓gate_tt, ↓gate_ff, ↓gate_tf, ↓gate_ft, ↓gate_undef, ↓o_bind, ↓stay_v, ↓pop_cons, ↓fin_nil, Option.isNone_none, Option.isNone_some, Bool.not_true, Bool.not_false, Nat.zero_add, decide_true, decide_false, if_true, if_false, Bool.false_eq_true, ↓reduceIte]
      have hlt : i < l.length := by omega
      have hx := hs _ (List.getElem_mem hlt)
      have hrd : Rds (lgI p d b S (rlI m r (List.replicate (N + 10) zeros) V N hd fu H)) (.slice al l.length cl) l.length (l.flatMap dcells) := by unfold lgI rlI; exact hl.right.right.right.right.right
      obtain ⟨b1, o1, rfl, _⟩ := win_cell (hrd.win h) (j := i * 4) (by omega)
      rw [o_index (by omega) (by omega)]
      simp only [Int.toNat_natCast, ↓o_nil, ↓o_field, ↓o_add, ↓o_sub, ↓o_mul, ↓o_lss, ↓o_leq, ↓o_gtr, ↓o_geq, ↓o_not, ↓o_pick, ↓o_eqInt, ↓o_neInt, ↓o_eqBool, ↓o_neBool, ↓o_eqPtr, ↓o_nePtr, ↓o_eqPtr', ↓o_eqSl, ↓o_neSl, ↓o_eqStr, ↓o_neStr, ↓o_len, ↓o_lenS, ↓o_min, ↓o_max, ↓o_extract, ↓o_convInt, ↓cd_true, ↓cd_false, ↓gate_tt, ↓gate_ff, ↓gate_tf, ↓gate_ft, ↓gate_undef, ↓o_bind, ↓stay_v, ↓pop_cons, ↓fin_nil, Option.isNone_none, Option.isNone_some, Bool.not_true, Bool.not_false, Nat.zero_add, decide_true, decide_false, if_true, if_false, Bool.false_eq_true, ↓reduceIte]
      refine ld_el h hrd (i * 4) rfl (dcells l[i]) rfl (dd_at hlt) ?_
      refine Do_spec B (by omega) h l[i] hx fun gs' V' hd' fu' w B' h => ?_
      try simp only [↓o_nil, ↓o_field, ↓o_add, ↓o_sub, ↓o_mul, ↓o_lss, ↓o_leq, ↓o_gtr, ↓o_geq, ↓o_not, ↓o_pick, ↓o_eqInt, ↓o_neInt, ↓o_eqBool, ↓o_neBool, ↓o_eqPtr, ↓o_nePtr, ↓o_eqPtr', ↓o_eqSl, ↓o_neSl, ↓o_eqStr, ↓o_neStr, ↓o_len, ↓o_lenS, ↓o_min, ↓o_max, ↓o_extract, ↓o_convInt, ↓cd_true, ↓cd_false, ↓gate_tt, ↓gate_ff, ↓gate_tf, ↓gate_ft, ↓gate_undef, ↓o_bind, ↓stay_v, ↓pop_cons, ↓fin_nil, Option.isNone_none, Option.isNone_some, Bool.not_true, Bool.not_false, Nat.zero_add, decide_true, decide_false, if_true, if_false, Bool.false_eq_true, ↓reduceIte]
      rw [i64_of (by omega) (by omega)]
      exact hag (20 - (i + 1)) _ _ (by omega) ⟨i + 1, _, gs', V', hd', fu', rfl, rfl, by omega, B', h⟩
    · simp only [h1, h2, ↓o_nil, ↓o_field, ↓o_add, ↓o_sub, ↓o_mul, ↓o_lss, ↓o_leq, ↓o_gtr, ↓o_geq, ↓o_not, ↓o_pick, ↓o_eqInt, ↓o_neInt, ↓o_eqBool, ↓o_neBool, ↓o_eqPtr, ↓o_nePtr, ↓o_eqPtr', ↓o_eqSl, ↓o_neSl, ↓o_eqStr, ↓o_neStr, ↓o_len, ↓o_lenS, ↓o_min, ↓o_max, ↓o_extract, ↓o_convInt, ↓cd_true, ↓cd_false, ↓gate_tt, ↓gate_ff, ↓gate_tf, ↓gate_ft, ↓gate_undef, ↓o_bind, ↓stay_v, ↓pop_cons, ↓fin_nil, Option.isNone_none, Option.isNone_some, Bool.not_true, Bool.not_false, Nat.zero_add, decide_true, decide_false, if_true, if_false, Bool.false_eq_true, ↓reduceIte]
      exact hend
  · simp only [h1, ↓o_nil, ↓o_field, ↓o_add, ↓o_sub, ↓o_mul, ↓o_lss, ↓o_leq, ↓o_gtr, ↓o_geq, ↓o_not, ↓o_pick, ↓o_eqInt, ↓o_neInt, ↓o_eqBool, ↓o_neBool, ↓o_eqPtr, ↓o_nePtr, ↓o_eqPtr', ↓o_eqSl, ↓o_neSl, ↓o_eqStr, ↓o_neStr, ↓o_len, ↓o_lenS, ↓o_min, ↓o_max, ↓o_extract, ↓o_convInt, ↓cd_true, ↓cd_false, ↓gate_tt, ↓gate_ff, ↓gate_tf, ↓gate_ft, ↓gate_undef, ↓o_bind, ↓stay_v, ↓pop_cons, ↓fin_nil, Option.isNone_none, Option.isNone_some, Bool.not_true, Bool.not_false, Nat.zero_add, decide_true, decide_false, if_true, if_false, Bool.false_eq_true, ↓reduceIte]
    exact hend
end Go.Proofs.YtgkeplodfkmnlaaGreat.Cuts
