/-
  TopHashed: the walk.
-/
import Derived.Test.YtfaeklinhchidaaGreatHshdP
set_option linter.all false
set_option maxRecDepth 100000
namespace Go.Proofs.YtfaeklinhchidaaGreat.Hashed
open Go Hold Go.ChangeShapes Go.WideShapes Go.ChangeAt Go.RowKit
variable {E : World0} {w : World} {H R : HP} {K : Value → World → Prop}
theorem wrapB (n : Nat) : Value.int .u8 (IntKind.u8.wrap (n : Int)) = bv (UInt8.ofNat n) := by
  rw [IntKind.wrap_u8]
  unfold bv
  congr 1
theorem o_geqT {P : Program} {t : TypeId} {a b : Bs} : pvv P (binOp .geq t (tv a) (tv b)) w K = K (.bool !(lexB a b)) w := pvv_eq fun w => by
  have : (⟨a.toArray⟩ : ByteArray).toList = a ∧ (⟨b.toArray⟩ : ByteArray).toList = b := by simp [ByteArray.toList_eq]
  simp only [binOp, Op.stringOp, tv, this.1, this.2, bytesLess_lexB]
  rfl
def kvP (hb vb : Nat) (ks vs : Bs) : PP := ⟨fun I => RdS I (.slice (some ⟨hb, 0, none⟩) ks.length ks.length) ks.length (ks.map bv) ∧ RdS I (.slice (some ⟨vb, 0, none⟩) vs.length vs.length) vs.length (vs.map bv), fun hI hh => ⟨hh.1.mono hI, hh.2.mono hI⟩⟩
theorem put_it {tb kk c i : Nat} {A : Ad} {l : List (Value × Bs)} {al : Option Addr} {cl : Nat} {s : St} {kvs : List En} {used : List Nat} (hs : Hs l s kvs used i) (hi : i < 25) {rv : Value} {row : Bs} (hx : l[i]? = some (rv, row)) (hr : RowS H (rv, row)) (hk : kk ≤ 600)
    (h : sat E w (trT tb A 89 s 0 kk (c + 30) * H)) {again : List Value → World → Prop} (hag : ∀ s' kvs' used' w', Hs l s' kvs' used' (i + 1) → sat E w' (trT tb A 89 s' 0 (kk + 1) c * H) → again [.int .i64 (((i + 1 : Nat)) : Int)] w') : (
      Calls prog 10 #[rv] w (Ret fun t_13 w =>
      efv prog (Instr.alloc 38 true (.tuple #[])) w fun h_14 w =>
      efu prog (Instr.storeAt 38 h_14 t_13) w fun u_15 w =>
      pvv prog (Instr.sliceAt 38 h_14 none none none) w fun t_16 w =>
      pvv prog (convert 3 5 (.int .i64 i)) w fun t_17 w =>
      efv prog (Instr.buildSlice 22 1 #[(0, t_17)]) w fun t_18 w =>
      Calls prog 6 #[(.pointer (some ⟨tb, 0, none⟩)), t_16, t_18] w (Ret fun t_19 w =>
      pvv prog (oEq .neq 24 (.tmp 42) (.const (.int .i64 0)) t_19 (.int .i64 0)) w fun t_20 w =>
      gate (some (t_20, false)) (fun K => K (.pointer (some ⟨tb, 0, none⟩)) w) w fun t_21 w =>
      gate (some (t_20, false)) (fun K => Calls prog 7 #[t_21] w (Ret K)) w fun t_22 w =>
      gate (some (t_20, false)) (fun K => pvv prog (oEq .neq 24 (.tmp 46) (.const (.int .i64 0)) t_22 (.int .i64 0)) w K) w fun t_23 w =>
      pv prog (oPick t_20 (.bool true) t_23) w fun t_24 w =>
      cd t_24 (
        K (.bool false) w) <|
      pvv prog (binOp .add 3 (.int .i64 i) (.int .i64 1)) w fun t_25 w =>
      again [t_25] w))) := by
  have hl2 := hr.len
  have hl2 : row.length ≤ 140737488351232 := hl2
  refine Sum_spec h (hr.rd.right) (by omega) fun w h => ?_
  refine alloc_sl h fun hb w h => ?_
  have h : sat E w (pts hb (.cells (List.replicate 32 (bv 0)).toArray 38 (0, 0)) * (trT tb A 89 s 0 kk (c + 30) * H)) := h
  refine store_all (b := hb) h (vs := (sha row).map bv) (by simp) (by rw [List.length_map]; exact sha_length _) (bv_one _) fun w h => ?_
  rw [o_sliceA, o_convInt, wrapB]
  refine buildSlice_sl (e := 5) (cs := [bv (UInt8.ofNat i)].toArray) h (fun w => by kernel_rfl) fun vb w h => ?_
  obtain ⟨s', kvs', used', hd, hs'⟩ := hs.step hi hx
  have hsl : (sha row).length = 32 := sha_length _
  have h := osl_freeze (osl_of (n := 1) (sz := 1) h rfl (by omega))
  have h := osl_freeze (osl_of (n := 32) (sz := 1) (h.perm (star_left_comm _ _ _)) (by simp [hsl]) (by omega))
  have h2 := sat_imp2 h (immS (.slice (some ⟨hb, 0, none⟩) 32 32) 32 ((sha row).map bv)) (immS (.slice (some ⟨vb, 0, none⟩) 1 1) 1 [bv (UInt8.ofNat i)]) (χ := kvP hb vb (sha row) [UInt8.ofNat i]) (fun I a b => ⟨by rw [hsl]; exact a, b⟩)
  refine Put_spec (M := mendE) (key := sha row) (val := [UInt8.ofNat i]) (ka := some ⟨hb, 0, none⟩) (va := some ⟨vb, 0, none⟩) (kc := (sha row).length) (vc := 1) (φ := kvP hb vb (sha row) [UInt8.ofNat i]) mendE_spec (by omega) hd hs.w hs.ti.ok (by omega) (by omega) (by simp) (fun I hI => hI.1) (fun I hI => hI.2) (h2.perm (star_left_comm _ _ _)) fun w h hok => ?_
  simp only [↓opsA, opsB, if_true, if_false, ↓reduceIte]
  refine Commit_tree (by omega) h fun w h => ?_
  simp only [↓opsA, opsB, if_true, if_false, ↓reduceIte]
  rw [i64_of (by omega) (by omega)]
  refine hag { s' with w := 0 } kvs' used' w hs' ?_
  exact (h.perm (star_left_comm _ _ _)).drop
theorem get_it {tb kk c i n : Nat} {A : Ad} {l : List (Value × Bs)} {al : Option Addr} {cl : Nat} {s : St} {kvs : List En} {used : List Nat} (hs : Hs l s kvs used n) (hi : i < n) (hn : n ≤ 25) {rv : Value} {row : Bs} (hx : l[i]? = some (rv, row)) (hlr : Rds H (.slice al l.length cl) l.length (l.map (·.1))) (hrs : ∀ q ∈ l, RowS H q) (hll : l.length ≤ 9223372036854775807)
    (h : sat E w (trT tb A 89 s 0 kk (c + 3) * H)) {again : List Value → World → Prop} (hag : ∀ w', sat E w' (trT tb A 89 s 0 kk c * H) → again [.int .i64 (((i + 1 : Nat)) : Int)] w') : (
        Calls prog 10 #[rv] w (Ret fun t_35 w =>
        efv prog (Instr.alloc 38 true (.tuple #[])) w fun h_36 w =>
        efu prog (Instr.storeAt 38 h_36 t_35) w fun u_37 w =>
        pvv prog (Instr.sliceAt 38 h_36 none none none) w fun t_38 w =>
        Calls prog 11 #[(.pointer (some ⟨tb, 0, none⟩)), t_38] w (Ret fun t_39 w =>
        pvv prog (Instr.extract t_39 0) w fun t_40 w =>
        pvv prog (Instr.extract t_39 1) w fun t_41 w =>
        dr w fun w =>
        pvv prog (oEq .neq 24 (.tmp 70) (.const (.int .i64 0)) t_41 (.int .i64 0)) w fun t_42 w =>
        gate (some (t_42, false)) (fun K => K t_40 w) w fun t_43 w =>
        gate (some (t_42, false)) (fun K => pv prog (oBi .len #[22] 3 #[false] #[t_43]) w K) w fun t_44 w =>
        gate (some (t_42, false)) (fun K => pvv prog (oEq .neq 3 (.tmp 74) (.const (.int .i64 1)) t_44 (.int .i64 1)) w K) w fun t_45 w =>
        pv prog (oPick t_42 (.bool true) t_45) w fun t_46 w =>
        gate (some (t_46, false)) (fun K => K t_40 w) w fun t_47 w =>
        gate (some (t_46, false)) (fun K => pvv prog (Instr.indexAt 22 t_47 (.int .i64 0)) w K) w fun t_48 w =>
        gate (some (t_46, false)) (fun K => K (.slice al l.length cl) w) w fun t_49 w =>
        gate (some (t_46, false)) (fun K => pv prog (oBi .len #[36] 3 #[false] #[t_49]) w K) w fun t_50 w =>
        bindS (vN (Instr.loadAt 5 t_48)) fun m_52 => gate (some (t_46, false)) (fun K => ldv prog (Instr.loadAt 5 t_48) w K) w fun t_51 w =>
        gate (some (t_46, false)) (fun K => pvv prog (convert 5 3 t_51) w K) w fun t_53 w =>
        gate (some (t_46, false)) (fun K => pvv prog (binOp .geq 3 t_53 t_50) w K) w fun t_54 w =>
        pv prog (oPick t_46 (.bool true) t_54) w fun t_55 w =>
        gate (some (t_55, false)) (fun K => K (.slice al l.length cl) w) w fun t_56 w =>
        gate (some (t_55, false)) (fun K => K t_40 w) w fun t_57 w =>
        gate (some (t_55, false)) (fun K => pvv prog (Instr.indexAt 22 t_57 (.int .i64 0)) w K) w fun t_58 w =>
        bindS (vN (Instr.loadAt 5 t_58)) fun m_60 => gate (some (t_55, false)) (fun K => ldv prog (Instr.loadAt 5 t_58) w K) w fun t_59 w =>
        gate (some (t_55, false)) (fun K => pvv prog (Instr.indexAt 36 t_56 t_59) w K) w fun t_61 w =>
        bindS (vN (Instr.loadAt 22 t_61)) fun m_63 => gate (some (t_55, false)) (fun K => ldv prog (Instr.loadAt 22 t_61) w K) w fun t_62 w =>
        bindS (vN (Instr.loadAt 38 h_36)) fun m_65 => gate (some (t_55, false)) (fun K => ldv prog (Instr.loadAt 38 h_36) w K) w fun t_64 w =>
        gate (some (t_55, false)) (fun K => Calls prog 10 #[t_62] w (Ret fun s_80 w => stay prog (some (t_55, false)) m_65 t_64 w <| stay prog (some (t_55, false)) m_60 t_59 w <| stay prog (some (t_46, false)) m_52 t_51 w <| K s_80 w)) w fun t_66 w =>
        gate (some (t_55, false)) (fun K => Calls prog 12 #[t_66, t_64] w (Ret fun s_79 w => stay prog (some (t_55, false)) m_63 t_62 w <| stay prog (some (t_55, false)) m_60 t_59 w <| stay prog (some (t_46, false)) m_52 t_51 w <| K s_79 w)) w fun t_67 w =>
        gate (some (t_55, false)) (fun K => pvv prog (Op.unary .not t_67) w K) w fun t_68 w =>
        pv prog (oPick t_55 (.bool true) t_68) w fun t_69 w =>
        gate (some (t_69, false)) (fun K => K t_40 w) w fun t_70 w =>
        gate (some (t_69, false)) (fun K => pvv prog (Instr.indexAt 22 t_70 (.int .i64 0)) w K) w fun t_71 w =>
        gate (some (t_69, false)) (fun K => K (.int .i64 i) w) w fun t_72 w =>
        bindS (vN (Instr.loadAt 5 t_71)) fun m_74 => gate (some (t_69, false)) (fun K => ldv prog (Instr.loadAt 5 t_71) w K) w fun t_73 w =>
        gate (some (t_69, false)) (fun K => pvv prog (convert 5 3 t_73) w K) w fun t_75 w =>
        gate (some (t_69, false)) (fun K => pvv prog (binOp .lss 3 t_75 t_72) w K) w fun t_76 w =>
        pv prog (oPick t_69 (.bool true) t_76) w fun t_77 w =>
        cd t_77 (
          K (.bool false) w) <|
        pvv prog (binOp .add 3 (.int .i64 i) (.int .i64 1)) w fun t_78 w =>
        again [t_78] w))) := by
  have hr := hrs _ (List.mem_of_getElem? hx)
  have hl2 := hr.len
  have hl2 : row.length ≤ 140737488351232 := hl2
  have hsl : (sha row).length = 32 := sha_length _
  obtain ⟨m, x, hm1, hm2, hmx, hms, hme⟩ := hs.all i hi _ hx
  have hms : sha x.2 = sha row := hms
  have hml := (List.getElem?_eq_some_iff.1 hmx).1
  have hrx := hrs _ (List.mem_of_getElem? hmx)
  obtain ⟨nd, ix, hlf, hix⟩ := get_ok hs.ti hme
  refine Sum_spec h (hr.rd.right) (by omega) fun w h => ?_
  refine alloc_sl h fun hb w h => ?_
  have h : sat E w (pts hb (.cells (List.replicate 32 (bv 0)).toArray 38 (0, 0)) * (trT tb A 89 s 0 kk (c + 3) * H)) := h
  refine store_all (b := hb) h (vs := (sha row).map bv) (by simp) (by rw [List.length_map]; exact sha_length _) (bv_one _) fun w h => ?_
  rw [o_sliceA]
  have hkr : Rds (pts hb (.cells ((sha row).map bv).toArray 38 (0, 0)) * H) (.slice (some ⟨hb, 0, none⟩) (sha row).length (sha row).length) (sha row).length ((sha row).map bv) := by
    have := rds_row (H := pts hb (.cells (((sha row).map bv) ++ []).toArray 38 (0, 0)) * H) (b := hb) (e := 38) (n := (sha row).length) (c := (sha row).length) (xs := (sha row).map bv) (sp := []) (fr := (0, 0)) (Nat.le_refl _)
    rwa [List.append_nil] at this
  refine Get_spec (le := by omega) (f := 3) (c := c) (key := sha row) (ka := some ⟨hb, 0, none⟩) (kc := (sha row).length) hlf hix hs.ti.ok hkr (by omega) (by omega) (h.perm (star_left_comm _ _ _)) fun v w h => ?_
  have h : sat E w (osl 5 1 v 1 [bv (UInt8.ofNat m)] * (trT tb A 89 s 0 kk c * (pts hb (.cells ((sha row).map bv).toArray 38 (0, 0)) * H))) := h
  obtain ⟨a, c1, rfl, _, _, _⟩ := osl_shape h
  obtain ⟨b5, o5, rfl, _⟩ := win_cell ((Rds.osl).win h.drop') (j := 0) (by simp)
  have hm8 : (UInt8.ofNat m).toNat = m := by rw [UInt8.toNat_ofNat']; omega
  have cv : ∀ {w : World}, sat E w (osl 5 1 (.slice (some ⟨b5, o5, none⟩) 1 c1) 1 [bv (UInt8.ofNat m)] * (trT tb A 89 s 0 kk c * (pts hb (.cells ((sha row).map bv).toArray 38 (0, 0)) * H))) → w.cell? ⟨b5, o5 + 0, none⟩ = some (.int .u8 (m : Int)) := fun h => by
    obtain ⟨b6, o6, e, hc⟩ := win_cell ((Rds.osl).win h.drop') (j := 0) (by simp)
    cases e
    rw [hc]
    show some (bv (UInt8.ofNat m)) = _
    unfold bv
    rw [hm8]
  simp only [↓opsA, opsB, if_true, if_false, ↓reduceIte]
  refine dr_sl h fun w h _ => ?_
  simp only [show ((1 : Nat) : Int) = 1 from rfl, decide_true, Bool.not_true, Bool.false_eq_true, if_false, ↓opsA, opsB, if_true, if_false, ↓reduceIte]
  rw [o_index (by omega) (by omega)]
  simp only [show (0 : Int).toNat = 0 from rfl, Nat.mul_one, ↓opsA, opsB, if_true, if_false, ↓reduceIte]
  refine ld_cell (cv h) ?_
  simp only [↓opsA, opsB, if_true, if_false, ↓reduceIte]
  rw [i64_of (n := (m : Int)) (by omega) (by omega)]
  have g1 : ¬ (l.length : Int) ≤ (m : Int) := by omega
  simp only [g1, decide_false, Bool.false_eq_true, if_false, ↓opsA, opsB, if_true, if_false, ↓reduceIte]
  rw [o_index (by omega) (by omega)]
  simp only [show (0 : Int).toNat = 0 from rfl, Nat.mul_one]
  refine ld_cell (cv h) ?_
  have hlm : ∀ {w : World} {X : HP}, sat E w (X * H) → ∃ b7 o7, al = some ⟨b7, o7, none⟩ ∧ w.cell? ⟨b7, o7 + m, none⟩ = some x.1 := fun h => by
    obtain ⟨b7, o7, e, hc⟩ := win_cell (hlr.win h.drop) (j := m) (by rw [List.length_map]; exact hml)
    refine ⟨b7, o7, e, ?_⟩
    rw [hc, List.getElem_map, (List.getElem?_eq_some_iff.1 hmx).2]
  have hT : ∀ {w : World}, sat E w (osl 5 1 (.slice (some ⟨b5, o5, none⟩) 1 c1) 1 [bv (UInt8.ofNat m)] * (trT tb A 89 s 0 kk c * (pts hb (.cells ((sha row).map bv).toArray 38 (0, 0)) * H))) → sat E w ((osl 5 1 (.slice (some ⟨b5, o5, none⟩) 1 c1) 1 [bv (UInt8.ofNat m)] * (trT tb A 89 s 0 kk c * pts hb (.cells ((sha row).map bv).toArray 38 (0, 0)))) * H) := fun h => h.perm (by ac_rfl)
  have hT2 : ∀ {w : World}, sat E w (osl 5 1 (.slice (some ⟨b5, o5, none⟩) 1 c1) 1 [bv (UInt8.ofNat m)] * (trT tb A 89 s 0 kk c * (pts hb (.cells ((sha row).map bv).toArray 38 (0, 0)) * H))) → sat E w (pts hb (.cells ((sha row).map bv).toArray 38 (0, 0)) * (osl 5 1 (.slice (some ⟨b5, o5, none⟩) 1 c1) 1 [bv (UInt8.ofNat m)] * (trT tb A 89 s 0 kk c * H))) := fun h => h.perm (by ac_rfl)
  obtain ⟨b7, o7, ea, hc7⟩ := hlm (hT h)
  rw [ea, o_index (by omega) (by omega)]
  simp only [Int.toNat_natCast, Nat.mul_one]
  refine ld_cell hc7 ?_
  have hax : ((sha row).map bv).length = 32 := by rw [List.length_map]; exact hsl
  refine ld_agg (b := hb) (hT2 h) hax ?_
  refine Sum_spec h (hrx.rd.right.right.right) (by have := hrx.len; omega) fun w h => ?_
  refine st_agg (b := hb) (hT2 h) hax ?_
  refine st_cell (cv h) (st_cell (cv h) ?_)
  refine Same_spec h (a := sha x.2) (b := sha row) (sha_length _) hsl fun w h => ?_
  obtain ⟨b8, o8, ea8, hc8⟩ := hlm (hT h)
  rw [ea] at ea8
  cases ea8
  refine st_cell hc8 (st_cell (cv h) (st_cell (cv h) ?_))
  simp only [hms, decide_true, Bool.not_true, Bool.false_eq_true, if_false, ↓opsA, opsB, if_true, if_false, ↓reduceIte]
  rw [o_index (by omega) (by omega)]
  simp only [show (0 : Int).toNat = 0 from rfl, Nat.mul_one, ↓opsA, opsB, if_true, if_false, ↓reduceIte]
  refine ld_cell (cv h) ?_
  simp only [↓opsA, opsB, if_true, if_false, ↓reduceIte]
  have g2 : ¬ (m : Int) < (i : Int) := by omega
  rw [i64_of (n := (m : Int)) (by omega) (by omega), i64_of (by omega) (by omega)]
  simp only [g2, decide_false, Bool.false_eq_true, if_false, ↓opsA, opsB, if_true, if_false, ↓reduceIte]
  refine hag w ?_
  exact (h.perm (show _ = (osl 5 1 (.slice (some ⟨b5, o5, none⟩) 1 c1) 1 [bv (UInt8.ofNat m)] * pts hb (.cells ((sha row).map bv).toArray 38 (0, 0))) * (trT tb A 89 s 0 kk c * H) by ac_rfl)).drop
theorem len_le {l : List (Value × Bs)} {s : St} {kvs : List En} {used : List Nat} {n : Nat} (hs : Hs l s kvs used n) : used.length ≤ 3 * n := by
  have h1 := hs.ti.f.n
  have h2 := hs.fr
  simp only [List.length_nil] at h1
  omega
def φK (a b : Bs) : Nat → Value → PP := fun j v => ppOf (v = tv (if j = 0 then a else b))
theorem end_it {tb kk n : Nat} {A : Ad} {l : List (Value × Bs)} {al : Option Addr} {cl : Nat} {s : St} {kvs : List En} {used : List Nat} (hs : Hs l s kvs used n) (hn : n ≤ 25) (hnl : n ≤ l.length) (hll : l.length ≤ 9223372036854775807)
    (h : sat E w (trT tb A 89 s 0 kk 900000 * H)) (k : ∀ w', sat E w' H → K (.bool true) w') : (
      Calls prog 13 #[(.pointer (some ⟨tb, 0, none⟩)), (.slice none 0 0), (.slice none 0 0), (.int .i64 100)] w (Ret fun t_81 w =>
      pvv prog (Instr.extract t_81 0) w fun t_82 w =>
      pvv prog (Instr.extract t_81 1) w fun t_83 w =>
      lp (fun σ w again_85 => pop σ fun i_84 σ => fin σ <|
        pv prog (oBi .len #[43] 3 #[false] #[t_82]) w fun t_86 w =>
        pvv prog (binOp .lss 3 i_84 t_86) w fun t_87 w =>
        cd t_87 (
          dr w fun w =>
          pvv prog (binOp .sub 3 i_84 (.int .i64 1)) w fun t_88 w =>
          pvv prog (Instr.indexAt 43 t_82 t_88) w fun t_89 w =>
          pvv prog (Instr.fieldAt 47 t_89 0) w fun t_90 w =>
          pvv prog (Instr.indexAt 43 t_82 i_84) w fun t_91 w =>
          pvv prog (Instr.fieldAt 47 t_91 0) w fun t_92 w =>
          bindS (vN (Instr.loadAt 22 t_90)) fun m_94 => ldv prog (Instr.loadAt 22 t_90) w fun t_93 w =>
          bindS (vN (Instr.loadAt 22 t_92)) fun m_96 => ldv prog (Instr.loadAt 22 t_92) w fun t_95 w =>
          par 2 w fun J_97 =>
            (∀ (σ : List (Option Value)) (w : World), J_97 σ w → un σ 0 (efv prog (convert 22 9 t_93) w fun v_98 w => stay prog none m_96 t_95 w <| J_97 (σ.set 0 (some v_98)) w)) ∧
            (∀ (σ : List (Option Value)) (w : World), J_97 σ w → un σ 1 (efv prog (convert 22 9 t_95) w fun v_99 w => stay prog none m_94 t_93 w <| J_97 (σ.set 1 (some v_99)) w)) ∧
            ∀ (σ : List (Option Value)) (w : World), J_97 σ w → is σ 0 fun t_100 => is σ 1 fun t_101 => 
            pvv prog (binOp .geq 9 t_100 t_101) w fun t_102 w =>
            cd t_102 (
              K (.bool false) w) <|
            pvv prog (binOp .add 3 i_84 (.int .i64 1)) w fun t_103 w =>
            again_85 [t_103] w) <|
        Calls prog 8 #[(.pointer (some ⟨tb, 0, none⟩))] w (Ret fun t_104 w =>
        pvv prog (Instr.extract t_104 0) w fun t_105 w =>
        pvv prog (Instr.extract t_104 1) w fun t_106 w =>
        efv prog (Instr.alloc 31 true (.tuple #[])) w fun t_107 w =>
        efu prog (Instr.storeAt 31 t_107 t_105) w fun u_108 w =>
        pvv prog (oEq .eql 24 (.tmp 136) (.const (.int .i64 0)) t_83 (.int .i64 0)) w fun t_109 w =>
        gate (some (t_109, true)) (fun K => K t_106 w) w fun t_110 w =>
        gate (some (t_109, true)) (fun K => pvv prog (oEq .eql 24 (.tmp 139) (.const (.int .i64 0)) t_110 (.int .i64 0)) w K) w fun t_111 w =>
        pv prog (oPick t_109 t_111 (.bool false)) w fun t_112 w =>
        gate (some (t_112, true)) (fun K => K t_82 w) w fun t_113 w =>
        gate (some (t_112, true)) (fun K => pv prog (oBi .len #[43] 3 #[false] #[t_113]) w K) w fun t_114 w =>
        gate (some (t_112, true)) (fun K => K (.slice al l.length cl) w) w fun t_115 w =>
        gate (some (t_112, true)) (fun K => pv prog (oBi .len #[36] 3 #[false] #[t_115]) w K) w fun t_116 w =>
        gate (some (t_112, true)) (fun K => pvv prog (binOp .leq 3 t_114 t_116) w K) w fun t_117 w =>
        pv prog (oPick t_112 t_117 (.bool false)) w fun t_118 w =>
        K t_118 w)) [(.int .i64 1)] w)) := by
  have hul := len_le hs
  have hkl := hs.len
  obtain ⟨cnt, hc, hsc⟩ := scan_ok hs.ti
  refine Scan_spec (le := by omega) (c := 800000) (cnt := cnt) hsc (by omega) hs.ti.ok (trT_le h (by omega)) fun a c' xs w hxs h => ?_
  have hxl : xs.length = kvs.length := by rw [← hxs, esv_len]
  simp only [↓opsA, opsB, if_true, if_false, ↓reduceIte]
  refine lp_nat (fun q σ w => ∃ i, σ = [.int .i64 ((i + 1 : Nat) : Int)] ∧ q = xs.length - i ∧ i ≤ xs.length ∧ sat E w (osl 47 2 (.slice a xs.length c') xs.length (pcv xs) * (pers (evP xs) * (trT tb A 89 s 0 kk 800000 * H)))) xs.length ⟨0, rfl, rfl, by omega, h⟩ ?_
  clear h
  rintro q σ w again ⟨i, rfl, rfl, hi, h⟩ hag
  rw [pop_cons, fin_nil]
  simp only [↓opsA, opsB, if_true, if_false, ↓reduceIte]
  refine cd_dec (fun hlt => ?_) (fun hge => ?_)
  · have hlt : i + 1 < xs.length := by omega
    refine dr_sl h fun w h _ => ?_
    have hcl : ∀ {w : World} {X : HP}, sat E w (X * (osl 47 2 (.slice a xs.length c') xs.length (pcv xs) * (pers (evP xs) * (trT tb A 89 s 0 kk 800000 * H)))) → ∀ j (hj : j < xs.length), ∃ b7 o7, a = some ⟨b7, o7, none⟩ ∧ w.cell? ⟨b7, o7 + j * 2, none⟩ = some xs[j].kv := fun h j hj => by
      obtain ⟨b7, o7, e, hc⟩ := win_cell ((Rds.osl).win h.drop.drop') (j := j * 2) (by rw [pcv_len]; omega)
      refine ⟨b7, o7, e, ?_⟩
      rw [hc]
      have e2 := fm_at (k := 2) (cells := qcells) (fun _ => rfl) (List.getElem?_eq_getElem hj)
      have e3 : (((xs.flatMap qcells).drop (j * 2)).take 2)[0]? = some xs[j].kv := by rw [e2]; rfl
      rw [List.getElem?_take, if_pos (by omega), List.getElem?_drop, Nat.add_zero, List.getElem?_eq_getElem (by have := pcv_len xs; unfold pcv at this; omega)] at e3
      exact e3
    have e1 : ∀ {w : World} {Y : HP}, sat E w Y → sat E w (emp * Y) := fun h => h.perm (emp_star _).symm
    obtain ⟨b7, o7, rfl, hc1⟩ := hcl (e1 h) i (by omega)
    obtain ⟨b8, o8, e8, hc2⟩ := hcl (e1 h) (i + 1) (by omega)
    cases e8
    rw [show ((i + 1 : Nat) : Int) - 1 = (i : Int) by omega, i64_of (n := (i : Int)) (by omega) (by omega), o_index (by omega) (by omega), o_field, o_index (by omega) (by omega), o_field]
    simp only [Int.toNat_natCast]
    refine ld_cell (v := xs[i].kv) hc1 (ld_cell (v := xs[i + 1].kv) hc2 ?_)
    have hE1 := evP_R xs[i] (List.getElem_mem (show i < xs.length by omega))
    have hE2 := evP_R xs[i + 1] (List.getElem_mem hlt)
    refine par_sl (φK xs[i].e.k xs[i + 1].e.k) h ?_
    clear h
    refine ⟨?_, ?_, ?_⟩
    · intro σ w h hu
      refine conv_bs (l := xs[i].e.k) (hE1.k E w (slots.old h).drop.drop') ?_
      obtain ⟨b9, o9, e9, hc⟩ := hcl h (i + 1) hlt
      cases e9
      refine st_cell hc ?_
      exact slots.put h rfl
    · intro σ w h hu
      refine conv_bs (l := xs[i + 1].e.k) (hE2.k E w (slots.old h).drop.drop') ?_
      obtain ⟨b9, o9, e9, hc⟩ := hcl h i (by omega)
      cases e9
      refine st_cell hc ?_
      exact slots.put h rfl
    · intro σ w h t0 h0 t1 h1
      obtain rfl : t0 = tv xs[i].e.k := slots.get h h0
      obtain rfl : t1 = tv xs[i + 1].e.k := slots.get h h1
      have hlex : lexB xs[i].e.k xs[i + 1].e.k = true := by
        have hsr := hs.ti.srt
        rw [← hxs] at hsr
        unfold Srt esv at hsr
        rw [List.pairwise_map] at hsr
        exact List.pairwise_iff_getElem.1 hsr i (i + 1) (by omega) hlt (by omega)
      rw [o_geqT, hlex]
      simp only [Bool.not_true, cd_false]
      rw [i64_of (by omega) (by omega)]
      exact hag (xs.length - (i + 1)) _ _ (by omega) ⟨i + 1, rfl, rfl, by omega, slots.old h⟩
  · have ck := checkOk_of hs.ti (by decide)
    have h := (h.perm (show _ = osl 47 2 (.slice a xs.length c') xs.length (pcv xs) * (pers (evP xs) * (trT tb A 89 s 0 kk 800000 * H)) by rfl)).drop.drop
    refine CheckT_spec (le := by omega) (c := 700000) ck hs.ti.ok (trT_le h (by simp only [List.length_nil]; omega)) fun hg ra rc v2 v3 lv w o2 o3 h => ?_
    simp only [↓opsA, opsB, if_true, if_false, ↓reduceIte]
    refine alloc_sl h fun rb w h => ?_
    have h : sat E w (pts rb (.cells [Value.int .i64 0, .slice none 0 0, .slice none 0 0, .slice none 0 0, .int .i64 0].toArray 31 (0, 0)) * (trT tb A 89 s 0 kk 700000 * H)) := h
    refine store_all (b := rb) h (vs := [Value.int .i64 hg, .slice ra used.length rc, v2, v3, .int .i64 lv]) rfl rfl (fun x hx => by
      simp only [List.mem_cons, List.not_mem_nil, or_false] at hx
      rcases hx with rfl | rfl | rfl | rfl | rfl
      · rfl
      · rfl
      · exact o2
      · exact o3
      · rfl) fun w h => ?_
    have e9 : (xs.length : Int) ≤ (l.length : Int) := by omega
    simp only [e9, decide_true]
    exact k w h.drop.drop
theorem loop2 {tb n : Nat} {A : Ad} {l : List (Value × Bs)} {al : Option Addr} {cl : Nat} {s : St} {kvs : List En} {used : List Nat} (st : Hs l s kvs used n) (hn : n ≤ 25) (hnl : n ≤ l.length) (hnn : n = l.length ∨ n = 25) (ml : l.length ≤ 9223372036854775807) (hl : Rds H (.slice al l.length cl) l.length (l.map (·.1))) (hs : ∀ q ∈ l, RowS H q)
    (h : sat E w (trT tb A 89 s 0 n 900000 * H)) (h3 : sat E w (trT tb A 89 s 0 n (900000 + 3 * 25) * H)) (k : ∀ w', sat E w' H → K (.bool true) w') : (
    lp (fun σ w again_27 => pop σ fun i_26 σ => fin σ <|
      pv prog (oBi .len #[36] 3 #[false] #[(.slice al l.length cl)]) w fun t_28 w =>
      pvv prog (binOp .lss 3 i_26 t_28) w fun t_29 w =>
      gate (some (t_29, true)) (fun K => K i_26 w) w fun t_30 w =>
      gate (some (t_29, true)) (fun K => pvv prog (binOp .lss 3 t_30 (.int .i64 25)) w K) w fun t_31 w =>
      pv prog (oPick t_29 t_31 (.bool false)) w fun t_32 w =>
      cd t_32 (
        pvv prog (Instr.indexAt 36 (.slice al l.length cl) i_26) w fun t_33 w =>
        ldv prog (Instr.loadAt 22 t_33) w fun t_34 w =>
        Calls prog 10 #[t_34] w (Ret fun t_35 w =>
        efv prog (Instr.alloc 38 true (.tuple #[])) w fun h_36 w =>
        efu prog (Instr.storeAt 38 h_36 t_35) w fun u_37 w =>
        pvv prog (Instr.sliceAt 38 h_36 none none none) w fun t_38 w =>
        Calls prog 11 #[(.pointer (some ⟨tb, 0, none⟩)), t_38] w (Ret fun t_39 w =>
        pvv prog (Instr.extract t_39 0) w fun t_40 w =>
        pvv prog (Instr.extract t_39 1) w fun t_41 w =>
        dr w fun w =>
        pvv prog (oEq .neq 24 (.tmp 70) (.const (.int .i64 0)) t_41 (.int .i64 0)) w fun t_42 w =>
        gate (some (t_42, false)) (fun K => K t_40 w) w fun t_43 w =>
        gate (some (t_42, false)) (fun K => pv prog (oBi .len #[22] 3 #[false] #[t_43]) w K) w fun t_44 w =>
        gate (some (t_42, false)) (fun K => pvv prog (oEq .neq 3 (.tmp 74) (.const (.int .i64 1)) t_44 (.int .i64 1)) w K) w fun t_45 w =>
        pv prog (oPick t_42 (.bool true) t_45) w fun t_46 w =>
        gate (some (t_46, false)) (fun K => K t_40 w) w fun t_47 w =>
        gate (some (t_46, false)) (fun K => pvv prog (Instr.indexAt 22 t_47 (.int .i64 0)) w K) w fun t_48 w =>
        gate (some (t_46, false)) (fun K => K (.slice al l.length cl) w) w fun t_49 w =>
        gate (some (t_46, false)) (fun K => pv prog (oBi .len #[36] 3 #[false] #[t_49]) w K) w fun t_50 w =>
        bindS (vN (Instr.loadAt 5 t_48)) fun m_52 => gate (some (t_46, false)) (fun K => ldv prog (Instr.loadAt 5 t_48) w K) w fun t_51 w =>
        gate (some (t_46, false)) (fun K => pvv prog (convert 5 3 t_51) w K) w fun t_53 w =>
        gate (some (t_46, false)) (fun K => pvv prog (binOp .geq 3 t_53 t_50) w K) w fun t_54 w =>
        pv prog (oPick t_46 (.bool true) t_54) w fun t_55 w =>
        gate (some (t_55, false)) (fun K => K (.slice al l.length cl) w) w fun t_56 w =>
        gate (some (t_55, false)) (fun K => K t_40 w) w fun t_57 w =>
        gate (some (t_55, false)) (fun K => pvv prog (Instr.indexAt 22 t_57 (.int .i64 0)) w K) w fun t_58 w =>
        bindS (vN (Instr.loadAt 5 t_58)) fun m_60 => gate (some (t_55, false)) (fun K => ldv prog (Instr.loadAt 5 t_58) w K) w fun t_59 w =>
        gate (some (t_55, false)) (fun K => pvv prog (Instr.indexAt 36 t_56 t_59) w K) w fun t_61 w =>
        bindS (vN (Instr.loadAt 22 t_61)) fun m_63 => gate (some (t_55, false)) (fun K => ldv prog (Instr.loadAt 22 t_61) w K) w fun t_62 w =>
        bindS (vN (Instr.loadAt 38 h_36)) fun m_65 => gate (some (t_55, false)) (fun K => ldv prog (Instr.loadAt 38 h_36) w K) w fun t_64 w =>
        gate (some (t_55, false)) (fun K => Calls prog 10 #[t_62] w (Ret fun s_80 w => stay prog (some (t_55, false)) m_65 t_64 w <| stay prog (some (t_55, false)) m_60 t_59 w <| stay prog (some (t_46, false)) m_52 t_51 w <| K s_80 w)) w fun t_66 w =>
        gate (some (t_55, false)) (fun K => Calls prog 12 #[t_66, t_64] w (Ret fun s_79 w => stay prog (some (t_55, false)) m_63 t_62 w <| stay prog (some (t_55, false)) m_60 t_59 w <| stay prog (some (t_46, false)) m_52 t_51 w <| K s_79 w)) w fun t_67 w =>
        gate (some (t_55, false)) (fun K => pvv prog (Op.unary .not t_67) w K) w fun t_68 w =>
        pv prog (oPick t_55 (.bool true) t_68) w fun t_69 w =>
        gate (some (t_69, false)) (fun K => K t_40 w) w fun t_70 w =>
        gate (some (t_69, false)) (fun K => pvv prog (Instr.indexAt 22 t_70 (.int .i64 0)) w K) w fun t_71 w =>
        gate (some (t_69, false)) (fun K => K i_26 w) w fun t_72 w =>
        bindS (vN (Instr.loadAt 5 t_71)) fun m_74 => gate (some (t_69, false)) (fun K => ldv prog (Instr.loadAt 5 t_71) w K) w fun t_73 w =>
        gate (some (t_69, false)) (fun K => pvv prog (convert 5 3 t_73) w K) w fun t_75 w =>
        gate (some (t_69, false)) (fun K => pvv prog (binOp .lss 3 t_75 t_72) w K) w fun t_76 w =>
        pv prog (oPick t_69 (.bool true) t_76) w fun t_77 w =>
        cd t_77 (
          K (.bool false) w) <|
        pvv prog (binOp .add 3 i_26 (.int .i64 1)) w fun t_78 w =>
        again_27 [t_78] w))) <|
      Calls prog 13 #[(.pointer (some ⟨tb, 0, none⟩)), (.slice none 0 0), (.slice none 0 0), (.int .i64 100)] w (Ret fun t_81 w =>
      pvv prog (Instr.extract t_81 0) w fun t_82 w =>
      pvv prog (Instr.extract t_81 1) w fun t_83 w =>
      lp (fun σ w again_85 => pop σ fun i_84 σ => fin σ <|
        pv prog (oBi .len #[43] 3 #[false] #[t_82]) w fun t_86 w =>
        pvv prog (binOp .lss 3 i_84 t_86) w fun t_87 w =>
        cd t_87 (
          dr w fun w =>
          pvv prog (binOp .sub 3 i_84 (.int .i64 1)) w fun t_88 w =>
          pvv prog (Instr.indexAt 43 t_82 t_88) w fun t_89 w =>
          pvv prog (Instr.fieldAt 47 t_89 0) w fun t_90 w =>
          pvv prog (Instr.indexAt 43 t_82 i_84) w fun t_91 w =>
          pvv prog (Instr.fieldAt 47 t_91 0) w fun t_92 w =>
          bindS (vN (Instr.loadAt 22 t_90)) fun m_94 => ldv prog (Instr.loadAt 22 t_90) w fun t_93 w =>
          bindS (vN (Instr.loadAt 22 t_92)) fun m_96 => ldv prog (Instr.loadAt 22 t_92) w fun t_95 w =>
          par 2 w fun J_97 =>
            (∀ (σ : List (Option Value)) (w : World), J_97 σ w → un σ 0 (efv prog (convert 22 9 t_93) w fun v_98 w => stay prog none m_96 t_95 w <| J_97 (σ.set 0 (some v_98)) w)) ∧
            (∀ (σ : List (Option Value)) (w : World), J_97 σ w → un σ 1 (efv prog (convert 22 9 t_95) w fun v_99 w => stay prog none m_94 t_93 w <| J_97 (σ.set 1 (some v_99)) w)) ∧
            ∀ (σ : List (Option Value)) (w : World), J_97 σ w → is σ 0 fun t_100 => is σ 1 fun t_101 => 
            pvv prog (binOp .geq 9 t_100 t_101) w fun t_102 w =>
            cd t_102 (
              K (.bool false) w) <|
            pvv prog (binOp .add 3 i_84 (.int .i64 1)) w fun t_103 w =>
            again_85 [t_103] w) <|
        Calls prog 8 #[(.pointer (some ⟨tb, 0, none⟩))] w (Ret fun t_104 w =>
        pvv prog (Instr.extract t_104 0) w fun t_105 w =>
        pvv prog (Instr.extract t_104 1) w fun t_106 w =>
        efv prog (Instr.alloc 31 true (.tuple #[])) w fun t_107 w =>
        efu prog (Instr.storeAt 31 t_107 t_105) w fun u_108 w =>
        pvv prog (oEq .eql 24 (.tmp 136) (.const (.int .i64 0)) t_83 (.int .i64 0)) w fun t_109 w =>
        gate (some (t_109, true)) (fun K => K t_106 w) w fun t_110 w =>
        gate (some (t_109, true)) (fun K => pvv prog (oEq .eql 24 (.tmp 139) (.const (.int .i64 0)) t_110 (.int .i64 0)) w K) w fun t_111 w =>
        pv prog (oPick t_109 t_111 (.bool false)) w fun t_112 w =>
        gate (some (t_112, true)) (fun K => K t_82 w) w fun t_113 w =>
        gate (some (t_112, true)) (fun K => pv prog (oBi .len #[43] 3 #[false] #[t_113]) w K) w fun t_114 w =>
        gate (some (t_112, true)) (fun K => K (.slice al l.length cl) w) w fun t_115 w =>
        gate (some (t_112, true)) (fun K => pv prog (oBi .len #[36] 3 #[false] #[t_115]) w K) w fun t_116 w =>
        gate (some (t_112, true)) (fun K => pvv prog (binOp .leq 3 t_114 t_116) w K) w fun t_117 w =>
        pv prog (oPick t_112 t_117 (.bool false)) w fun t_118 w =>
        K t_118 w)) [(.int .i64 1)] w)) [(.int .i64 0)] w) := by
  have hld : ∀ {w : World} {X : HP} {K' : Value → World → Prop} {i : Nat} (hi : i < l.length), sat E w (X * H) → K' l[i].1 w → pvv prog (Instr.indexAt 36 (.slice al l.length cl) (.int .i64 i)) w fun t w => ldv prog (Instr.loadAt 22 t) w K' := fun {w X K' i} hi h hk' => by
    obtain ⟨b1, o1, rfl, hb1⟩ := win_cell (hl.win h.drop) (j := i) (by rw [List.length_map]; exact hi)
    rw [o_index (by omega) (by omega)]
    simp only [Int.toNat_natCast, Nat.mul_one]
    refine ld_cell hb1 ?_
    rw [List.getElem_map]
    exact hk'
  clear h
  refine lp_nat (fun q σ w => ∃ (i : Nat), σ = [.int .i64 i] ∧ q = n - i ∧ i ≤ n ∧ sat E w (trT tb A 89 s 0 n (900000 + 3 * (25 - i)) * H)) n ⟨0, rfl, rfl, by omega, h3⟩ ?_
  clear h3
  rintro q σ w again ⟨i, rfl, rfl, hi, h⟩ hag
  rw [pop_cons, fin_nil]
  have hend := end_it (al := al) (cl := cl) st hn hnl ml (trT_le h (by omega)) k
  simp only [↓opsA, opsB, if_true, if_false, ↓reduceIte] at hend
  by_cases h1 : i < n
  · have h2 : (i : Int) < (l.length : Int) := by omega
    have h3 : (i : Int) < 25 := by omega
    simp only [h2, h3, decide_true, ↓opsA, opsB, if_true, if_false, ↓reduceIte]
    refine hld (by omega) h ?_
    have h : sat E w (trT tb A 89 s 0 n (900000 + 3 * (25 - (i + 1)) + 3) * H) := trT_le h (by omega)
    have hlt : i < l.length := by omega
    have hit := get_it (K := K) (al := al) (cl := cl) st h1 hn (rv := l[i].1) (row := l[i].2) (List.getElem?_eq_getElem hlt) hl hs ml h (again := again) fun w' h => hag (n - (i + 1)) _ _ (by omega) ⟨i + 1, rfl, rfl, by omega, h⟩
    simp only [↓opsA, opsB, if_true, if_false, ↓reduceIte] at hit
    exact hit
  · by_cases h2 : (i : Int) < (l.length : Int)
    · have h3 : ¬ (i : Int) < 25 := by omega
      simp only [h2, h3, decide_true, decide_false, ↓opsA, opsB, if_true, if_false, ↓reduceIte]
      exact hend
    · simp only [h2, decide_false, ↓opsA, opsB, if_true, if_false, ↓reduceIte]
      exact hend
theorem Hashed_spec (h : sat E w H) {lv : Value} (l : List (Value × Bs)) (hl : Rds H lv l.length (l.map (·.1))) (ml : l.length ≤ 9223372036854775807) (hs : ∀ q ∈ l, RowS H q) (k : ∀ w', sat E w' H → K (.bool true) w') : Calls prog 4 #[lv] w (Ret K) := by
  obtain ⟨al, cl, rfl, hcl, hl, _⟩ := hl.shape h
  refine c4 ?_
  unfold B4
  refine tall_spec h (n := 200) (by omega) (by omega) fun tb A w h => ?_
  simp only [↓opsA, opsB, if_true, if_false, ↓reduceIte]
  have h : sat E w (trT tb A 89 s00 0 0 (910000 + 30 * 25) * H) := trT_le h (by omega)
  have hld : ∀ {w : World} {X : HP} {K' : Value → World → Prop} {i : Nat} (hi : i < l.length), sat E w (X * H) → K' l[i].1 w → pvv prog (Instr.indexAt 36 (.slice al l.length cl) (.int .i64 i)) w fun t w => ldv prog (Instr.loadAt 22 t) w K' := fun {w X K' i} hi h hk' => by
    obtain ⟨b1, o1, rfl, hb1⟩ := win_cell (hl.win h.drop) (j := i) (by rw [List.length_map]; exact hi)
    rw [o_index (by omega) (by omega)]
    simp only [Int.toNat_natCast, Nat.mul_one]
    refine ld_cell hb1 ?_
    rw [List.getElem_map]
    exact hk'
  refine lp_nat (fun q σ w => ∃ (i : Nat) (s : St) (kvs : List En) (used : List Nat), σ = [.int .i64 i] ∧ q = 25 - i ∧ i ≤ 25 ∧ i ≤ l.length ∧ Hs l s kvs used i ∧ sat E w (trT tb A 89 s 0 i (910000 + 30 * (25 - i)) * H)) 25 ⟨0, s00, [], [], rfl, rfl, by omega, by omega, Hs.start l, h⟩ ?_
  clear h
  rintro q σ w again ⟨i, s, kvs, used, rfl, rfl, hi, hil, st, h⟩ hag
  rw [pop_cons, fin_nil]
  by_cases h1 : i < l.length ∧ i < 25
  · have h2 : (i : Int) < (l.length : Int) := by omega
    have h3 : (i : Int) < 25 := by omega
    simp only [h2, h3, decide_true, ↓opsA, opsB, if_true, if_false, ↓reduceIte]
    refine hld h1.1 h ?_
    have h : sat E w (trT tb A 89 s 0 i (910000 + 30 * (25 - (i + 1)) + 30) * H) := trT_le h (by omega)
    have hit := put_it (K := K) (al := al) (cl := cl) st h1.2 (rv := l[i].1) (row := l[i].2) (List.getElem?_eq_getElem h1.1) (hs _ (List.getElem_mem h1.1)) (kk := i) (by omega) h (again := again) fun s' kvs' used' w' st' h => hag (25 - (i + 1)) _ _ (by omega) ⟨i + 1, s', kvs', used', rfl, rfl, by omega, by omega, st', h⟩
    simp only [↓opsA, opsB, if_true, if_false, ↓reduceIte] at hit
    exact hit
  · have hgo := loop2 (K := K) (al := al) (cl := cl) st hi hil (by omega) ml hl hs (trT_le h (by omega)) (trT_le h (by omega)) k
    simp only [↓opsA, opsB, if_true, if_false, ↓reduceIte] at hgo
    by_cases h2 : (i : Int) < (l.length : Int)
    · have h3 : ¬ (i : Int) < 25 := by omega
      simp only [h2, h3, decide_true, decide_false, ↓opsA, opsB, if_true, if_false, ↓reduceIte]
      exact hgo
    · simp only [h2, decide_false, ↓opsA, opsB, if_true, if_false, ↓reduceIte]
      exact hgo
end Go.Proofs.YtfaeklinhchidaaGreat.Hashed
