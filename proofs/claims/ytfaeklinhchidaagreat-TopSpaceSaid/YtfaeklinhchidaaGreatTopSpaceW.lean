/-
  TopSpace: the walk.
-/
import Derived.Test.YtfaeklinhchidaaGreatSpcP
import Derived.Test.YtfaeklinhchidaaGreatMndF
set_option linter.all false
set_option maxRecDepth 100000
namespace Go.Proofs.YtfaeklinhchidaaGreat.Space
open Go Hold Go.ChangeShapes Go.WideShapes Go.ChangeAt Go.RowKit
variable {E : World0} {w : World} {H R : HP} {K : Value → World → Prop}
theorem trT_up {tb : Nat} {A : Ad} {N : Nat} {s : St} {d d' k c : Nat} (h : sat E w (trT tb A N s d k c * R)) (hd : d ≤ d') : sat E w (trT tb A N s d' k c * R) := by
  unfold trT at h ⊢
  have h := h.perm (show _ = pX A N s.cc d k c * (pts tb (.cells [Value.int .i64 s.root, .int .i64 s.free, .int .i64 s.fresh, .pointer (some ⟨A.q, 0, none⟩)].toArray 73 (0, 0)) * R) by ac_rfl)
  have h := pX_le h hd (Nat.le_refl _) (Nat.le_refl _)
  exact h.perm (by ac_rfl)
def φS (b : UInt8) : Nat → Value → PP := fun j v => if j = 0 then ⟨fun I => ∃ p, v = .slice (some ⟨p, 0, none⟩) 2 2 ∧ RdS I v 2 ((sk b).map bv), fun hI ⟨p, e, h⟩ => ⟨p, e, h.mono hI⟩⟩ else ⟨fun I => ∃ p, v = .slice (some ⟨p, 0, none⟩) 50 50 ∧ RdS I v 50 (zv.map bv), fun hI ⟨p, e, h⟩ => ⟨p, e, h.mono hI⟩⟩
theorem put_it {tb kk c i f0 : Nat} {A : Ad} {l : Bs} {al : Option Addr} {cl : Nat} {s : St} {fr used : List Nat} (hs : Sp l s fr used f0 i) (hi : i < 40) (hlt : i < l.length) (hf : f0 ≤ 200) (hlr : Rds H (.slice al l.length cl) l.length (l.map bv)) (hk : kk ≤ 600)
    (h : sat E w (trT tb A 289 s 0 kk (c + 30) * H)) {again : List Value → World → Prop} (hag : ∀ s' fr' used' w', Sp l s' fr' used' f0 (i + 1) → sat E w' (trT tb A 289 s' 0 (kk + 1) c * H) → again [.int .i64 (((i + 1 : Nat)) : Int)] w') : (
          dr w fun w =>
          pvv prog (Instr.indexAt 22 (.slice al l.length cl) (.int .i64 i)) w fun t_21 w =>
          bindS (vN (Instr.loadAt 5 t_21)) fun m_23 => ldv prog (Instr.loadAt 5 t_21) w fun t_22 w =>
          par 2 w fun J_24 =>
            (∀ (σ : List (Option Value)) (w : World), J_24 σ w → un σ 0 (efv prog (Instr.buildSlice 22 2 #[(0, t_22), (1, (.int .u8 1))]) w fun v_25 w => J_24 (σ.set 0 (some v_25)) w)) ∧
            (∀ (σ : List (Option Value)) (w : World), J_24 σ w → un σ 1 (efv prog (Instr.makeSlice 22 (.int .i64 50) (.int .i64 50)) w fun v_26 w => stay prog none m_23 t_22 w <| J_24 (σ.set 1 (some v_26)) w)) ∧
            ∀ (σ : List (Option Value)) (w : World), J_24 σ w → is σ 0 fun t_27 => is σ 1 fun t_28 => 
            Calls prog 6 #[(.pointer (some ⟨tb, 0, none⟩)), t_27, t_28] w (Ret fun t_29 w => stay prog none m_23 t_22 w <| 
            pvv prog (oEq .neq 24 (.tmp 49) (.const (.int .i64 0)) t_29 (.int .i64 0)) w fun t_30 w =>
            gate (some (t_30, false)) (fun K => K (.pointer (some ⟨tb, 0, none⟩)) w) w fun t_31 w =>
            gate (some (t_30, false)) (fun K => Calls prog 7 #[t_31] w (Ret fun s_36 w => stay prog none m_23 t_22 w <| K s_36 w)) w fun t_32 w =>
            gate (some (t_30, false)) (fun K => pvv prog (oEq .neq 24 (.tmp 53) (.const (.int .i64 0)) t_32 (.int .i64 0)) w K) w fun t_33 w =>
            pv prog (oPick t_30 (.bool true) t_33) w fun t_34 w =>
            cd t_34 (
              K (.bool false) w) <|
            pvv prog (binOp .add 3 (.int .i64 i) (.int .i64 1)) w fun t_35 w =>
            again [t_35] w)) := by
  obtain ⟨s', fr', used', hd, hs'⟩ := hs.step hi hlt hf
  have hcell : ∀ {w : World} {X : HP}, sat E w (X * H) → ∃ b7 o7, al = some ⟨b7, o7, none⟩ ∧ w.cell? ⟨b7, o7 + i, none⟩ = some (bv l[i]) := fun h => by
    obtain ⟨b7, o7, e, hc⟩ := win_cell (hlr.win h.drop) (j := i) (by rw [List.length_map]; exact hlt)
    exact ⟨b7, o7, e, by rw [hc, List.getElem_map]⟩
  obtain ⟨b7, o7, rfl, hc7⟩ := hcell h
  refine dr_sl h fun w h _ => ?_
  obtain ⟨_, _, e7, hc7⟩ := hcell h
  cases e7
  rw [o_index (by omega) (by omega)]
  simp only [Int.toNat_natCast, Nat.mul_one]
  simp only [↓opsA, opsB, if_true, if_false, ↓reduceIte]
  refine ld_cell hc7 ?_
  refine par_sl (φS l[i]) h ?_
  clear h hc7
  have st : ∀ {w : World} {X : HP} {A : Prop}, sat E w (X * H) → A → stv prog none (Instr.loadAt 5 (.pointer (some ⟨b7, o7 + i, none⟩))) (bv l[i]) w A := fun h k => by
    obtain ⟨_, _, e7, hc⟩ := hcell h
    cases e7
    exact st_cell hc k
  refine ⟨?_, ?_, ?_⟩
  · intro σ w h hu
    refine buildSlice_sl (e := 5) (cs := ((sk l[i]).map bv).toArray) h (fun w => by kernel_rfl) fun b w h => ?_
    exact slots.keepb h (by omega) rfl fun I hI => ⟨b, rfl, hI⟩
  · intro σ w h hu
    refine make_sl h rfl (by omega) (by omega) (by omega) (by omega) fun b w h => ?_
    have h : sat E w (pts b (.cells (zv.map bv).toArray 5 (0, 0)) * slots (φS l[i]) σ (trT tb A 289 s 0 kk (c + 30) * H)) := by
      have e : zv.map bv = List.replicate 50 (bv 0) := by unfold zv; rw [List.map_replicate]
      rw [e]; exact h
    refine st (slots.old h.drop) ?_
    exact slots.keepb h (by omega) rfl fun I hI => ⟨b, rfl, hI⟩
  · intro σ w h t0 h0 t1 h1
    obtain ⟨kb, rfl, _⟩ := slots.get h h0
    obtain ⟨vb, rfl, _⟩ := slots.get h h1
    unfold slots at h
    refine Put_spec (M := mendL) (key := sk l[i]) (val := zv) (ka := some ⟨kb, 0, none⟩) (va := some ⟨vb, 0, none⟩) (kc := 2) (vc := 50) (φ := slotsP (φS l[i]) σ) mendL_spec (by omega) hd hs.w hs.ti.ok (by show 1 ≤ 2; omega) (by show 2 ≤ 64; omega) (by decide) (fun I hI => by
      obtain ⟨_, _, g⟩ := hI 0 _ h0
      exact g) (fun I hI => by
      obtain ⟨_, _, g⟩ := hI 1 _ h1
      exact g) (h.perm (star_left_comm _ _ _)) fun w h hok => ?_
    refine st (h.perm (star_assoc _ _ _).symm) ?_
    simp only [↓opsA, opsB, if_true, if_false, ↓reduceIte]
    refine Commit_tree (by omega) h fun w h => ?_
    refine st (h.perm (star_assoc _ _ _).symm) ?_
    simp only [↓opsA, opsB, if_true, if_false, ↓reduceIte]
    rw [i64_of (by omega) (by omega)]
    refine hag { s' with w := 0 } fr' used' w hs' ?_
    exact (h.perm (star_left_comm _ _ _)).drop
theorem del_it {tb kk c i n F : Nat} {A : Ad} {l : Bs} {al : Option Addr} {cl : Nat} {s : St} {kvs : List En} {fr used : List Nat} (hs : Sd l n s kvs fr used F i) (hF : F ≤ 280) (hi : i < n) (hn : n ≤ 40) (hlt : i < l.length) (hlr : Rds H (.slice al l.length cl) l.length (l.map bv)) (hk : kk ≤ 600)
    (h : sat E w (trT tb A 289 s 0 kk (c + 30 + 3) * H)) {again : List Value → World → Prop} (hag : ∀ s' kvs' fr' used' w', Sd l n s' kvs' fr' used' F (i + 1) → sat E w' (trT tb A 289 s' 0 (kk + 1) c * H) → again [.int .i64 (((i + 1 : Nat)) : Int)] w') : (
              pvv prog (Instr.indexAt 22 (.slice al l.length cl) (.int .i64 i)) w fun t_63 w =>
              ldv prog (Instr.loadAt 5 t_63) w fun t_64 w =>
              efv prog (Instr.buildSlice 22 2 #[(0, t_64), (1, (.int .u8 1))]) w fun t_65 w =>
              Calls prog 9 #[(.pointer (some ⟨tb, 0, none⟩)), t_65] w (Ret fun t_66 w =>
              pvv prog (oEq .neq 24 (.tmp 99) (.const (.int .i64 0)) t_66 (.int .i64 0)) w fun t_67 w =>
              gate (some (t_67, true)) (fun K => K t_66 w) w fun t_68 w =>
              gate (some (t_67, true)) (fun K => pvv prog (oEq .neq 24 (.tmp 102) (.const (.int .i64 4)) t_68 (.int .i64 4)) w K) w fun t_69 w =>
              pv prog (oPick t_67 t_69 (.bool false)) w fun t_70 w =>
              gate (some (t_70, false)) (fun K => K (.pointer (some ⟨tb, 0, none⟩)) w) w fun t_71 w =>
              gate (some (t_70, false)) (fun K => Calls prog 7 #[t_71] w (Ret K)) w fun t_72 w =>
              gate (some (t_70, false)) (fun K => pvv prog (oEq .neq 24 (.tmp 107) (.const (.int .i64 0)) t_72 (.int .i64 0)) w K) w fun t_73 w =>
              pv prog (oPick t_70 (.bool true) t_73) w fun t_74 w =>
              cd t_74 (
                K (.bool false) w) <|
              pvv prog (binOp .add 3 (.int .i64 i) (.int .i64 1)) w fun t_75 w =>
              again [t_75] w)) := by
  obtain ⟨b7, o7, rfl, hc7⟩ : ∃ b7 o7, al = some ⟨b7, o7, none⟩ ∧ w.cell? ⟨b7, o7 + i, none⟩ = some (bv l[i]) := by
    obtain ⟨b7, o7, e, hc⟩ := win_cell (hlr.win h.drop) (j := i) (by rw [List.length_map]; exact hlt)
    exact ⟨b7, o7, e, by rw [hc, List.getElem_map]⟩
  rw [o_index (by omega) (by omega)]
  simp only [Int.toNat_natCast, Nat.mul_one]
  refine ld_cell hc7 ?_
  refine buildSlice_sl (e := 5) (cs := ((sk l[i]).map bv).toArray) h (fun w => by kernel_rfl) fun kb w h => ?_
  have h := osl_freeze (osl_of (n := 2) (sz := 1) h rfl (by omega))
  have h := h.perm (show _ = trT tb A 289 s 0 kk (c + 30 + 3) * (pers (immS (.slice (some ⟨kb, 0, none⟩) 2 2) 2 ((sk l[i]).map bv)) * H) by ac_rfl)
  rcases hs.step hF hi hlt with ⟨⟨nd, ix, hlf⟩, hs'⟩ | ⟨nd, ix, s', kvs', fr', used', hlf, hd, hs'⟩
  · refine Delete_none (key := sk l[i]) (ka := some ⟨kb, 0, none⟩) (kc := 2) (c := c + 30) (f := 3) (by omega) hlf hs.ti.ok (by show 1 ≤ 2; omega) (by show 2 ≤ 64; omega) (Rds.pers.left) h fun w h => ?_
    simp only [show decide ((4 : Int) = 0) = false from rfl, show decide ((4 : Int) = 4) = true from rfl, ↓opsA, opsB, if_true, if_false, ↓reduceIte]
    refine Commit_tree (c := c) (by omega) (trT_up (trT_le h (by omega)) (by omega)) fun w h => ?_
    simp only [↓opsA, opsB, if_true, if_false, ↓reduceIte]
    rw [i64_of (by omega) (by omega)]
    exact hag s kvs fr used w hs' ((h.perm (star_left_comm _ _ _)).drop)
  · refine Delete_spec (M := mendL) mendL_spec (key := sk l[i]) (ka := some ⟨kb, 0, none⟩) (kc := 2) (c := c) (f := 3) (φ := immS (.slice (some ⟨kb, 0, none⟩) 2 2) 2 ((sk l[i]).map bv)) (by omega) hlf hd hs.w hs.ti.ok (by show 1 ≤ 2; omega) (by show 2 ≤ 64; omega) (fun I hI => hI) h fun w h hok => ?_
    simp only [↓opsA, opsB, if_true, if_false, ↓reduceIte]
    refine Commit_tree (by omega) h fun w h => ?_
    simp only [↓opsA, opsB, if_true, if_false, ↓reduceIte]
    rw [i64_of (by omega) (by omega)]
    exact hag { s' with w := 0 } kvs' fr' used' w hs' ((h.perm (star_left_comm _ _ _)).drop)
theorem del_loop {tb kk c n F M r xb : Nat} {A : Ad} {l : Bs} {al : Option Addr} {cl : Nat} {s : St} {kvs : List En} {fr used : List Nat} {rc : List Value} (hn : n ≤ 40) (hnl : n ≤ l.length) (hnn : n = l.length ∨ n = 40) (ml : l.length ≤ 9223372036854775807) (hs : Sd l n s kvs fr used F 0) (hF : F ≤ 280) (hk : kk ≤ 500) (hr : r ≤ 10) (hlr : Rds H (.slice al l.length cl) l.length (l.map bv)) (hrc : rc.length = 5)
    (h : sat E w (trT tb A 289 s 0 kk (c + 300 + 33 * 40) * (pts xb (.cells rc.toArray 31 (0, 0)) * H))) {again9 : List Value → World → Prop} (hag : ∀ s' fr' used' kk' w', Sp l s' fr' used' F 0 → kk' ≤ kk + 40 → sat E w' (trT tb A 289 s' 0 kk' c * H) → again9 [.int .i64 (M : Nat), .int .i64 (((r + 1 : Nat)) : Int)] w') : (
          lp (fun σ w againZ => pop σ fun iq_56 σ => fin σ <|
            pv prog (oBi .len #[22] 3 #[false] #[(.slice al l.length cl)]) w fun t_58 w =>
            pvv prog (binOp .lss 3 iq_56 t_58) w fun t_59 w =>
            gate (some (t_59, true)) (fun K => K iq_56 w) w fun t_60 w =>
            gate (some (t_59, true)) (fun K => pvv prog (binOp .lss 3 t_60 (.int .i64 40)) w K) w fun t_61 w =>
            pv prog (oPick t_59 t_61 (.bool false)) w fun t_62 w =>
            cd t_62 (
              pvv prog (Instr.indexAt 22 (.slice al l.length cl) iq_56) w fun t_63 w =>
              ldv prog (Instr.loadAt 5 t_63) w fun t_64 w =>
              efv prog (Instr.buildSlice 22 2 #[(0, t_64), (1, (.int .u8 1))]) w fun t_65 w =>
              Calls prog 9 #[(.pointer (some ⟨tb, 0, none⟩)), t_65] w (Ret fun t_66 w =>
              pvv prog (oEq .neq 24 (.tmp 99) (.const (.int .i64 0)) t_66 (.int .i64 0)) w fun t_67 w =>
              gate (some (t_67, true)) (fun K => K t_66 w) w fun t_68 w =>
              gate (some (t_67, true)) (fun K => pvv prog (oEq .neq 24 (.tmp 102) (.const (.int .i64 4)) t_68 (.int .i64 4)) w K) w fun t_69 w =>
              pv prog (oPick t_67 t_69 (.bool false)) w fun t_70 w =>
              gate (some (t_70, false)) (fun K => K (.pointer (some ⟨tb, 0, none⟩)) w) w fun t_71 w =>
              gate (some (t_70, false)) (fun K => Calls prog 7 #[t_71] w (Ret K)) w fun t_72 w =>
              gate (some (t_70, false)) (fun K => pvv prog (oEq .neq 24 (.tmp 107) (.const (.int .i64 0)) t_72 (.int .i64 0)) w K) w fun t_73 w =>
              pv prog (oPick t_70 (.bool true) t_73) w fun t_74 w =>
              cd t_74 (
                K (.bool false) w) <|
              pvv prog (binOp .add 3 iq_56 (.int .i64 1)) w fun t_75 w =>
              againZ [t_75] w)) <|
            Calls prog 8 #[(.pointer (some ⟨tb, 0, none⟩))] w (Ret fun t_76 w =>
            pvv prog (Instr.extract t_76 0) w fun t_77 w =>
            pvv prog (Instr.extract t_76 1) w fun t_78 w =>
            efu prog (Instr.storeAt 31 (.pointer (some ⟨xb, 0, none⟩)) t_77) w fun u_79 w =>
            pvv prog (oEq .neq 24 (.tmp 115) (.const (.int .i64 0)) t_78 (.int .i64 0)) w fun t_80 w =>
            gate (some (t_80, false)) (fun K => pvv prog (Instr.fieldAt 31 (.pointer (some ⟨xb, 0, none⟩)) 1) w K) w fun t_81 w =>
            gate (some (t_80, false)) (fun K => ldv prog (Instr.loadAt 29 t_81) w K) w fun t_82 w =>
            gate (some (t_80, false)) (fun K => pv prog (oBi .len #[29] 3 #[false] #[t_82]) w K) w fun t_83 w =>
            gate (some (t_80, false)) (fun K => pvv prog (binOp .gtr 3 t_83 (.int .i64 1)) w K) w fun t_84 w =>
            pv prog (oPick t_80 (.bool true) t_84) w fun t_85 w =>
            cd t_85 (
              K (.bool false) w) <|
            pvv prog (binOp .add 3 (.int .i64 r) (.int .i64 1)) w fun t_86 w =>
            again9 [(.int .i64 (M : Nat)), t_86] w)) [(.int .i64 0)] w) := by
  refine lp_nat (fun q σ w => ∃ (i : Nat) (s : St) (kvs : List En) (fr used : List Nat), σ = [.int .i64 i] ∧ q = n - i ∧ i ≤ n ∧ Sd l n s kvs fr used F i ∧ sat E w (trT tb A 289 s 0 (kk + i) (c + 300 + 33 * (40 - i)) * (pts xb (.cells rc.toArray 31 (0, 0)) * H))) n ⟨0, s, kvs, fr, used, rfl, rfl, by omega, hs, h⟩ ?_
  clear h hs
  rintro q σ w again ⟨i, s, kvs, fr, used, rfl, rfl, hi, hs, h⟩ hag2
  rw [pop_cons, fin_nil]
  by_cases h1 : i < n
  · have h2 : (i : Int) < (l.length : Int) := by omega
    have h3 : (i : Int) < 40 := by omega
    simp only [h2, h3, decide_true, ↓opsA, opsB, if_true, if_false, ↓reduceIte]
    have h : sat E w (trT tb A 289 s 0 (kk + i) ((c + 300 + 33 * (40 - (i + 1))) + 30 + 3) * (pts xb (.cells rc.toArray 31 (0, 0)) * H)) := trT_le h (by omega)
    have hit := del_it (K := K) (al := al) (cl := cl) hs hF h1 hn (by omega) hlr.right (by omega) h (again := again) fun s' kvs' fr' used' w' hs' h => hag2 (n - (i + 1)) _ _ (by omega) ⟨i + 1, s', kvs', fr', used', rfl, rfl, by omega, hs', h⟩
    simp only [↓opsA, opsB, if_true, if_false, ↓reduceIte] at hit
    exact hit
  · have hin : i = n := by omega
    subst hin
    obtain ⟨hk0, hu, hfr⟩ := hs.empty
    have hfin : (
Calls prog 8 #[(.pointer (some ⟨tb, 0, none⟩))] w (Ret fun t_76 w =>
            pvv prog (Instr.extract t_76 0) w fun t_77 w =>
            pvv prog (Instr.extract t_76 1) w fun t_78 w =>
            efu prog (Instr.storeAt 31 (.pointer (some ⟨xb, 0, none⟩)) t_77) w fun u_79 w =>
            pvv prog (oEq .neq 24 (.tmp 115) (.const (.int .i64 0)) t_78 (.int .i64 0)) w fun t_80 w =>
            gate (some (t_80, false)) (fun K => pvv prog (Instr.fieldAt 31 (.pointer (some ⟨xb, 0, none⟩)) 1) w K) w fun t_81 w =>
            gate (some (t_80, false)) (fun K => ldv prog (Instr.loadAt 29 t_81) w K) w fun t_82 w =>
            gate (some (t_80, false)) (fun K => pv prog (oBi .len #[29] 3 #[false] #[t_82]) w K) w fun t_83 w =>
            gate (some (t_80, false)) (fun K => pvv prog (binOp .gtr 3 t_83 (.int .i64 1)) w K) w fun t_84 w =>
            pv prog (oPick t_80 (.bool true) t_84) w fun t_85 w =>
            cd t_85 (
              K (.bool false) w) <|
            pvv prog (binOp .add 3 (.int .i64 r) (.int .i64 1)) w fun t_86 w =>
            again9 [(.int .i64 (M : Nat)), t_86] w)) := by
      have ck := checkOk_of hs.ti (by decide)
      refine CheckT_spec (le := by omega) (c := c) ck hs.ti.ok (trT_le h (by have := hs.fr; have := hs.ti.f.n; omega)) fun hg ra rcc v2 v3 lv w o2 o3 h => ?_
      simp only [↓opsA, opsB, if_true, if_false, ↓reduceIte]
      have h := h.perm (show _ = pts xb (.cells rc.toArray 31 (0, 0)) * (trT tb A 289 s 0 (kk + i) c * H) by ac_rfl)
      refine store_all (b := xb) h (vs := [Value.int .i64 hg, .slice ra used.length rcc, v2, v3, .int .i64 lv]) hrc rfl (fun x hx => by
        simp only [List.mem_cons, List.not_mem_nil, or_false] at hx
        rcases hx with rfl | rfl | rfl | rfl | rfl
        · rfl
        · rfl
        · exact o2
        · exact o3
        · rfl) fun w h => ?_
      refine ld_in (b := xb) (v := .slice ra used.length rcc) h rfl ?_
      have h9 : ¬ (1 : Int) < (used.length : Int) := by omega
      simp only [h9, decide_false, ↓opsA, opsB, if_true, if_false, ↓reduceIte]
      rw [i64_of (by omega) (by omega)]
      exact hag s fr used (kk + i) w hs.next (by omega) h.drop
    simp only [↓opsA, opsB, if_true, if_false, ↓reduceIte] at hfin
    by_cases h2 : (i : Int) < (l.length : Int)
    · have h3 : ¬ (i : Int) < 40 := by omega
      simp only [h2, h3, decide_true, decide_false, ↓opsA, opsB, if_true, if_false, ↓reduceIte]
      exact hfin
    · simp only [h2, decide_false, ↓opsA, opsB, if_true, if_false, ↓reduceIte]
      exact hfin
theorem round {tb kk c n f0 M r : Nat} {A : Ad} {l : Bs} {al : Option Addr} {cl : Nat} {s : St} {fr used : List Nat} (hn : n ≤ 40) (hnl : n ≤ l.length) (hnn : n = l.length ∨ n = 40) (ml : l.length ≤ 9223372036854775807) (hs : Sp l s fr used f0 0) (hf : f0 ≤ 200) (hk : kk ≤ 400) (hr : r ≤ 10) (hM : 0 < r → 1 + (KV l n).length / 2 ≤ M + 2) (hM2 : M ≤ 1000) (hlr : Rds H (.slice al l.length cl) l.length (l.map bv))
    (h : sat E w (trT tb A 289 s 0 kk ((c + 300 + 33 * 40) + 300 + 30 * 40) * H)) {again9 : List Value → World → Prop} (hag : ∀ (M' : Nat) s' fr' used' kk' w', Sp l s' fr' used' (22 + f0) 0 → 1 + (KV l n).length / 2 ≤ M' + 2 → M' ≤ 1000 → kk' ≤ kk + 80 → sat E w' (trT tb A 289 s' 0 kk' c * H) → again9 [.int .i64 M', .int .i64 (((r + 1 : Nat)) : Int)] w') : (
      lp (fun σ w again_15 => pop σ fun i_14 σ => fin σ <|
        pv prog (oBi .len #[22] 3 #[false] #[(.slice al l.length cl)]) w fun t_16 w =>
        pvv prog (binOp .lss 3 i_14 t_16) w fun t_17 w =>
        gate (some (t_17, true)) (fun K => K i_14 w) w fun t_18 w =>
        gate (some (t_17, true)) (fun K => pvv prog (binOp .lss 3 t_18 (.int .i64 40)) w K) w fun t_19 w =>
        pv prog (oPick t_17 t_19 (.bool false)) w fun t_20 w =>
        cd t_20 (
          dr w fun w =>
          pvv prog (Instr.indexAt 22 (.slice al l.length cl) i_14) w fun t_21 w =>
          bindS (vN (Instr.loadAt 5 t_21)) fun m_23 => ldv prog (Instr.loadAt 5 t_21) w fun t_22 w =>
          par 2 w fun J_24 =>
            (∀ (σ : List (Option Value)) (w : World), J_24 σ w → un σ 0 (efv prog (Instr.buildSlice 22 2 #[(0, t_22), (1, (.int .u8 1))]) w fun v_25 w => J_24 (σ.set 0 (some v_25)) w)) ∧
            (∀ (σ : List (Option Value)) (w : World), J_24 σ w → un σ 1 (efv prog (Instr.makeSlice 22 (.int .i64 50) (.int .i64 50)) w fun v_26 w => stay prog none m_23 t_22 w <| J_24 (σ.set 1 (some v_26)) w)) ∧
            ∀ (σ : List (Option Value)) (w : World), J_24 σ w → is σ 0 fun t_27 => is σ 1 fun t_28 => 
            Calls prog 6 #[(.pointer (some ⟨tb, 0, none⟩)), t_27, t_28] w (Ret fun t_29 w => stay prog none m_23 t_22 w <| 
            pvv prog (oEq .neq 24 (.tmp 49) (.const (.int .i64 0)) t_29 (.int .i64 0)) w fun t_30 w =>
            gate (some (t_30, false)) (fun K => K (.pointer (some ⟨tb, 0, none⟩)) w) w fun t_31 w =>
            gate (some (t_30, false)) (fun K => Calls prog 7 #[t_31] w (Ret fun s_36 w => stay prog none m_23 t_22 w <| K s_36 w)) w fun t_32 w =>
            gate (some (t_30, false)) (fun K => pvv prog (oEq .neq 24 (.tmp 53) (.const (.int .i64 0)) t_32 (.int .i64 0)) w K) w fun t_33 w =>
            pv prog (oPick t_30 (.bool true) t_33) w fun t_34 w =>
            cd t_34 (
              K (.bool false) w) <|
            pvv prog (binOp .add 3 i_14 (.int .i64 1)) w fun t_35 w =>
            again_15 [t_35] w)) <|
        Calls prog 8 #[(.pointer (some ⟨tb, 0, none⟩))] w (Ret fun t_38 w =>
        pvv prog (Instr.extract t_38 0) w fun t_39 w =>
        pvv prog (Instr.extract t_38 1) w fun t_40 w =>
        efv prog (Instr.alloc 31 true (.tuple #[])) w fun x_41 w =>
        efu prog (Instr.storeAt 31 x_41 t_39) w fun u_42 w =>
        pvv prog (oEq .neq 24 (.tmp 61) (.const (.int .i64 0)) t_40 (.int .i64 0)) w fun t_43 w =>
        gate (some (t_43, false)) (fun K => K (.int .i64 r) w) w fun t_44 w =>
        gate (some (t_43, false)) (fun K => pvv prog (binOp .gtr 3 t_44 (.int .i64 0)) w K) w fun t_45 w =>
        gate (some (t_43, false)) (fun K => K t_45 w) w fun t_46 w =>
        gate (some (t_46, true)) (fun K => pvv prog (Instr.fieldAt 31 x_41 1) w K) w fun t_47 w =>
        gate (some (t_46, true)) (fun K => ldv prog (Instr.loadAt 29 t_47) w K) w fun t_48 w =>
        gate (some (t_46, true)) (fun K => pv prog (oBi .len #[29] 3 #[false] #[t_48]) w K) w fun t_49 w =>
        gate (some (t_46, true)) (fun K => K (.int .i64 (M : Nat)) w) w fun t_50 w =>
        gate (some (t_46, true)) (fun K => pvv prog (binOp .add 3 t_50 (.int .i64 2)) w K) w fun t_51 w =>
        gate (some (t_46, true)) (fun K => pvv prog (binOp .gtr 3 t_49 t_51) w K) w fun t_52 w =>
        gate (some (t_43, false)) (fun K => pv prog (oPick t_46 t_52 (.bool false)) w K) w fun t_53 w =>
        pv prog (oPick t_43 (.bool true) t_53) w fun t_54 w =>
        cd t_54 (
          K (.bool false) w) <|
        jn (fun σ w => pop σ fun most_55 σ => fin σ <|
          lp (fun σ w again_57 => pop σ fun i_56 σ => fin σ <|
            pv prog (oBi .len #[22] 3 #[false] #[(.slice al l.length cl)]) w fun t_58 w =>
            pvv prog (binOp .lss 3 i_56 t_58) w fun t_59 w =>
            gate (some (t_59, true)) (fun K => K i_56 w) w fun t_60 w =>
            gate (some (t_59, true)) (fun K => pvv prog (binOp .lss 3 t_60 (.int .i64 40)) w K) w fun t_61 w =>
            pv prog (oPick t_59 t_61 (.bool false)) w fun t_62 w =>
            cd t_62 (
              pvv prog (Instr.indexAt 22 (.slice al l.length cl) i_56) w fun t_63 w =>
              ldv prog (Instr.loadAt 5 t_63) w fun t_64 w =>
              efv prog (Instr.buildSlice 22 2 #[(0, t_64), (1, (.int .u8 1))]) w fun t_65 w =>
              Calls prog 9 #[(.pointer (some ⟨tb, 0, none⟩)), t_65] w (Ret fun t_66 w =>
              pvv prog (oEq .neq 24 (.tmp 99) (.const (.int .i64 0)) t_66 (.int .i64 0)) w fun t_67 w =>
              gate (some (t_67, true)) (fun K => K t_66 w) w fun t_68 w =>
              gate (some (t_67, true)) (fun K => pvv prog (oEq .neq 24 (.tmp 102) (.const (.int .i64 4)) t_68 (.int .i64 4)) w K) w fun t_69 w =>
              pv prog (oPick t_67 t_69 (.bool false)) w fun t_70 w =>
              gate (some (t_70, false)) (fun K => K (.pointer (some ⟨tb, 0, none⟩)) w) w fun t_71 w =>
              gate (some (t_70, false)) (fun K => Calls prog 7 #[t_71] w (Ret K)) w fun t_72 w =>
              gate (some (t_70, false)) (fun K => pvv prog (oEq .neq 24 (.tmp 107) (.const (.int .i64 0)) t_72 (.int .i64 0)) w K) w fun t_73 w =>
              pv prog (oPick t_70 (.bool true) t_73) w fun t_74 w =>
              cd t_74 (
                K (.bool false) w) <|
              pvv prog (binOp .add 3 i_56 (.int .i64 1)) w fun t_75 w =>
              again_57 [t_75] w)) <|
            Calls prog 8 #[(.pointer (some ⟨tb, 0, none⟩))] w (Ret fun t_76 w =>
            pvv prog (Instr.extract t_76 0) w fun t_77 w =>
            pvv prog (Instr.extract t_76 1) w fun t_78 w =>
            efu prog (Instr.storeAt 31 x_41 t_77) w fun u_79 w =>
            pvv prog (oEq .neq 24 (.tmp 115) (.const (.int .i64 0)) t_78 (.int .i64 0)) w fun t_80 w =>
            gate (some (t_80, false)) (fun K => pvv prog (Instr.fieldAt 31 x_41 1) w K) w fun t_81 w =>
            gate (some (t_80, false)) (fun K => ldv prog (Instr.loadAt 29 t_81) w K) w fun t_82 w =>
            gate (some (t_80, false)) (fun K => pv prog (oBi .len #[29] 3 #[false] #[t_82]) w K) w fun t_83 w =>
            gate (some (t_80, false)) (fun K => pvv prog (binOp .gtr 3 t_83 (.int .i64 1)) w K) w fun t_84 w =>
            pv prog (oPick t_80 (.bool true) t_84) w fun t_85 w =>
            cd t_85 (
              K (.bool false) w) <|
            pvv prog (binOp .add 3 (.int .i64 r) (.int .i64 1)) w fun t_86 w =>
            again9 [most_55, t_86] w)) [(.int .i64 0)] w) fun k_87 =>
        pvv prog (oEq .eql 3 (.tmp 75) (.const (.int .i64 0)) (.int .i64 r) (.int .i64 0)) w fun t_88 w =>
        cd t_88 (
          pvv prog (Instr.fieldAt 31 x_41 1) w fun t_89 w =>
          ldv prog (Instr.loadAt 29 t_89) w fun t_90 w =>
          pv prog (oBi .len #[29] 3 #[false] #[t_90]) w fun t_91 w =>
          pvv prog (binOp .mul 3 (.int .i64 2) t_91) w fun t_92 w =>
          pvv prog (binOp .add 3 t_92 (.int .i64 8)) w fun t_93 w =>
          k_87 [t_93] w) <|
        k_87 [(.int .i64 (M : Nat))] w)) [(.int .i64 0)] w) := by
  refine lp_nat (fun q σ w => ∃ (i : Nat) (s : St) (fr used : List Nat), σ = [.int .i64 i] ∧ q = n - i ∧ i ≤ n ∧ Sp l s fr used f0 i ∧ sat E w (trT tb A 289 s 0 (kk + i) ((c + 300 + 33 * 40) + 300 + 30 * (40 - i)) * H)) n ⟨0, s, fr, used, rfl, rfl, by omega, hs, h⟩ ?_
  clear h hs
  rintro q σ w again ⟨i, s, fr, used, rfl, rfl, hi, hs, h⟩ hag2
  rw [pop_cons, fin_nil]
  by_cases h1 : i < n
  · have h2 : (i : Int) < (l.length : Int) := by omega
    have h3 : (i : Int) < 40 := by omega
    simp only [h2, h3, decide_true, ↓opsA, opsB, if_true, if_false, ↓reduceIte]
    have h : sat E w (trT tb A 289 s 0 (kk + i) (((c + 300 + 33 * 40) + 300 + 30 * (40 - (i + 1))) + 30) * H) := trT_le h (by omega)
    have hit := put_it (K := K) (al := al) (cl := cl) hs (by omega) (by omega) hf hlr (by omega) h (again := again) fun s' fr' used' w' hs' h => hag2 (n - (i + 1)) _ _ (by omega) ⟨i + 1, s', fr', used', rfl, rfl, by omega, hs', h⟩
    simp only [↓opsA, opsB, if_true, if_false, ↓reduceIte] at hit
    exact hit
  · have hin : i = n := by omega
    subst hin
    have hul := hs.fresh hn
    obtain ⟨ub1, ub2⟩ := used_bounds hs.ti
    have hkl := (KV_len (l := l) (i := i)).2.1
    have hfin : (
Calls prog 8 #[(.pointer (some ⟨tb, 0, none⟩))] w (Ret fun t_38 w =>
        pvv prog (Instr.extract t_38 0) w fun t_39 w =>
        pvv prog (Instr.extract t_38 1) w fun t_40 w =>
        efv prog (Instr.alloc 31 true (.tuple #[])) w fun x_41 w =>
        efu prog (Instr.storeAt 31 x_41 t_39) w fun u_42 w =>
        pvv prog (oEq .neq 24 (.tmp 61) (.const (.int .i64 0)) t_40 (.int .i64 0)) w fun t_43 w =>
        gate (some (t_43, false)) (fun K => K (.int .i64 r) w) w fun t_44 w =>
        gate (some (t_43, false)) (fun K => pvv prog (binOp .gtr 3 t_44 (.int .i64 0)) w K) w fun t_45 w =>
        gate (some (t_43, false)) (fun K => K t_45 w) w fun t_46 w =>
        gate (some (t_46, true)) (fun K => pvv prog (Instr.fieldAt 31 x_41 1) w K) w fun t_47 w =>
        gate (some (t_46, true)) (fun K => ldv prog (Instr.loadAt 29 t_47) w K) w fun t_48 w =>
        gate (some (t_46, true)) (fun K => pv prog (oBi .len #[29] 3 #[false] #[t_48]) w K) w fun t_49 w =>
        gate (some (t_46, true)) (fun K => K (.int .i64 (M : Nat)) w) w fun t_50 w =>
        gate (some (t_46, true)) (fun K => pvv prog (binOp .add 3 t_50 (.int .i64 2)) w K) w fun t_51 w =>
        gate (some (t_46, true)) (fun K => pvv prog (binOp .gtr 3 t_49 t_51) w K) w fun t_52 w =>
        gate (some (t_43, false)) (fun K => pv prog (oPick t_46 t_52 (.bool false)) w K) w fun t_53 w =>
        pv prog (oPick t_43 (.bool true) t_53) w fun t_54 w =>
        cd t_54 (
          K (.bool false) w) <|
        jn (fun σ w => pop σ fun most_55 σ => fin σ <|
          lp (fun σ w again_57 => pop σ fun i_56 σ => fin σ <|
            pv prog (oBi .len #[22] 3 #[false] #[(.slice al l.length cl)]) w fun t_58 w =>
            pvv prog (binOp .lss 3 i_56 t_58) w fun t_59 w =>
            gate (some (t_59, true)) (fun K => K i_56 w) w fun t_60 w =>
            gate (some (t_59, true)) (fun K => pvv prog (binOp .lss 3 t_60 (.int .i64 40)) w K) w fun t_61 w =>
            pv prog (oPick t_59 t_61 (.bool false)) w fun t_62 w =>
            cd t_62 (
              pvv prog (Instr.indexAt 22 (.slice al l.length cl) i_56) w fun t_63 w =>
              ldv prog (Instr.loadAt 5 t_63) w fun t_64 w =>
              efv prog (Instr.buildSlice 22 2 #[(0, t_64), (1, (.int .u8 1))]) w fun t_65 w =>
              Calls prog 9 #[(.pointer (some ⟨tb, 0, none⟩)), t_65] w (Ret fun t_66 w =>
              pvv prog (oEq .neq 24 (.tmp 99) (.const (.int .i64 0)) t_66 (.int .i64 0)) w fun t_67 w =>
              gate (some (t_67, true)) (fun K => K t_66 w) w fun t_68 w =>
              gate (some (t_67, true)) (fun K => pvv prog (oEq .neq 24 (.tmp 102) (.const (.int .i64 4)) t_68 (.int .i64 4)) w K) w fun t_69 w =>
              pv prog (oPick t_67 t_69 (.bool false)) w fun t_70 w =>
              gate (some (t_70, false)) (fun K => K (.pointer (some ⟨tb, 0, none⟩)) w) w fun t_71 w =>
              gate (some (t_70, false)) (fun K => Calls prog 7 #[t_71] w (Ret K)) w fun t_72 w =>
              gate (some (t_70, false)) (fun K => pvv prog (oEq .neq 24 (.tmp 107) (.const (.int .i64 0)) t_72 (.int .i64 0)) w K) w fun t_73 w =>
              pv prog (oPick t_70 (.bool true) t_73) w fun t_74 w =>
              cd t_74 (
                K (.bool false) w) <|
              pvv prog (binOp .add 3 i_56 (.int .i64 1)) w fun t_75 w =>
              again_57 [t_75] w)) <|
            Calls prog 8 #[(.pointer (some ⟨tb, 0, none⟩))] w (Ret fun t_76 w =>
            pvv prog (Instr.extract t_76 0) w fun t_77 w =>
            pvv prog (Instr.extract t_76 1) w fun t_78 w =>
            efu prog (Instr.storeAt 31 x_41 t_77) w fun u_79 w =>
            pvv prog (oEq .neq 24 (.tmp 115) (.const (.int .i64 0)) t_78 (.int .i64 0)) w fun t_80 w =>
            gate (some (t_80, false)) (fun K => pvv prog (Instr.fieldAt 31 x_41 1) w K) w fun t_81 w =>
            gate (some (t_80, false)) (fun K => ldv prog (Instr.loadAt 29 t_81) w K) w fun t_82 w =>
            gate (some (t_80, false)) (fun K => pv prog (oBi .len #[29] 3 #[false] #[t_82]) w K) w fun t_83 w =>
            gate (some (t_80, false)) (fun K => pvv prog (binOp .gtr 3 t_83 (.int .i64 1)) w K) w fun t_84 w =>
            pv prog (oPick t_80 (.bool true) t_84) w fun t_85 w =>
            cd t_85 (
              K (.bool false) w) <|
            pvv prog (binOp .add 3 (.int .i64 r) (.int .i64 1)) w fun t_86 w =>
            again9 [most_55, t_86] w)) [(.int .i64 0)] w) fun k_87 =>
        pvv prog (oEq .eql 3 (.tmp 75) (.const (.int .i64 0)) (.int .i64 r) (.int .i64 0)) w fun t_88 w =>
        cd t_88 (
          pvv prog (Instr.fieldAt 31 x_41 1) w fun t_89 w =>
          ldv prog (Instr.loadAt 29 t_89) w fun t_90 w =>
          pv prog (oBi .len #[29] 3 #[false] #[t_90]) w fun t_91 w =>
          pvv prog (binOp .mul 3 (.int .i64 2) t_91) w fun t_92 w =>
          pvv prog (binOp .add 3 t_92 (.int .i64 8)) w fun t_93 w =>
          k_87 [t_93] w) <|
        k_87 [(.int .i64 (M : Nat))] w)) := by
      have ck := checkOk_of hs.ti (by decide)
      refine CheckT_spec (le := by omega) (c := c + 300 + 33 * 40) ck hs.ti.ok (trT_le h (by have := hs.ti.f.n; have := hs.fr; omega)) fun hg ra rcc v2 v3 lv w o2 o3 h => ?_
      simp only [↓opsA, opsB, if_true, if_false, ↓reduceIte]
      refine alloc_sl h fun xb w h => ?_
      have h : sat E w (pts xb (.cells [Value.int .i64 0, .slice none 0 0, .slice none 0 0, .slice none 0 0, .int .i64 0].toArray 31 (0, 0)) * (trT tb A 289 s 0 (kk + i) (c + 300 + 33 * 40) * H)) := h
      refine store_all (b := xb) h (vs := [Value.int .i64 hg, .slice ra used.length rcc, v2, v3, .int .i64 lv]) rfl rfl (fun x hx => by
        simp only [List.mem_cons, List.not_mem_nil, or_false] at hx
        rcases hx with rfl | rfl | rfl | rfl | rfl
        · rfl
        · rfl
        · exact o2
        · exact o3
        · rfl) fun w h => ?_
      by_cases hr0 : r = 0
      · subst hr0
        simp only [show decide ((0 : Int) < ((0 : Nat) : Int)) = false from rfl, ↓opsA, opsB, if_true, if_false, ↓reduceIte]
        unfold jn
        simp only [show decide (((0 : Nat) : Int) = 0) = true from rfl, ↓opsA, opsB, if_true, if_false, ↓reduceIte]
        refine ld_in (b := xb) (v := .slice ra used.length rcc) h rfl ?_
        simp only [↓opsA, opsB, if_true, if_false, ↓reduceIte]
        rw [i64_of (n := 2 * (used.length : Int)) (by omega) (by omega), show 2 * (used.length : Int) + 8 = ((2 * used.length + 8 : Nat) : Int) by omega, i64_of (n := ((2 * used.length + 8 : Nat) : Int)) (by omega) (by omega)]
        have hdl := del_loop (K := K) (M := 2 * used.length + 8) (r := 0) hn hnl hnn ml (Sd.of hs hn) (by omega) (by omega) (by omega) hlr rfl (h.perm (star_left_comm _ _ _)) (again9 := again9) fun s' fr' used' kk' w' hs' hkk h => hag _ s' fr' used' kk' w' hs' (by omega) (by omega) (by omega) h
        simp only [↓opsA, opsB, if_true, if_false, ↓reduceIte] at hdl
        exact hdl
      · have hr1 : (0 : Int) < (r : Int) := by omega
        have hMr := hM (by omega)
        simp only [hr1, decide_true, ↓opsA, opsB, if_true, if_false, ↓reduceIte]
        refine ld_in (b := xb) (v := .slice ra used.length rcc) h rfl ?_
        have h8 : ¬ ((M : Int) + 2) < (used.length : Int) := by omega
        have h7 : ¬ (r : Int) = 0 := by omega
        rw [i64_of (n := (M : Int) + 2) (by omega) (by omega)]
        simp only [h8, decide_false, ↓opsA, opsB, if_true, if_false, ↓reduceIte]
        unfold jn
        simp only [h7, decide_false, ↓opsA, opsB, if_true, if_false, ↓reduceIte]
        have hdl := del_loop (K := K) (M := M) (r := r) hn hnl hnn ml (Sd.of hs hn) (by omega) (by omega) (by omega) hlr rfl (h.perm (star_left_comm _ _ _)) (again9 := again9) fun s' fr' used' kk' w' hs' hkk h => hag _ s' fr' used' kk' w' hs' (by omega) (by omega) (by omega) h
        simp only [↓opsA, opsB, if_true, if_false, ↓reduceIte] at hdl
        exact hdl
    simp only [↓opsA, opsB, if_true, if_false, ↓reduceIte] at hfin
    by_cases h2 : (i : Int) < (l.length : Int)
    · have h3 : ¬ (i : Int) < 40 := by omega
      simp only [h2, h3, decide_true, decide_false, ↓opsA, opsB, if_true, if_false, ↓reduceIte]
      exact hfin
    · simp only [h2, decide_false, ↓opsA, opsB, if_true, if_false, ↓reduceIte]
      exact hfin
theorem Space_spec (h : sat E w H) {lv : Value} (l : Bs) (hlr : Rds H lv l.length (l.map bv)) (ml : l.length ≤ 140737488351232) (x : UInt8) (k : ∀ w', sat E w' H → K (.bool true) w') : Calls prog 3 #[lv, bv x] w (Ret K) := by
  obtain ⟨al, cl, rfl, hcl, hlr, _⟩ := hlr.shape h
  refine c3 ?_
  unfold B3
  refine tall_spec h (n := 400) (by omega) (by omega) fun tb A w h => ?_
  simp only [↓opsA, opsB, if_true, if_false, ↓reduceIte]
  have hx := x.toNat_lt
  have hR : (x.toNat : Int).tmod 5 + 1 = ((x.toNat % 5 + 1 : Nat) : Int) := by rw [Int.tmod_eq_emod_of_nonneg (by omega)]; omega
  obtain ⟨n, hn, hnl, hnn⟩ : ∃ n, n ≤ 40 ∧ n ≤ l.length ∧ (n = l.length ∨ n = 40) := by
    by_cases e : l.length ≤ 40
    · exact ⟨l.length, e, Nat.le_refl _, .inl rfl⟩
    · exact ⟨40, Nat.le_refl _, by omega, .inr rfl⟩
  have h : sat E w (trT tb A 289 s00 0 0 (800000 + 4000 * (5 - 0)) * H) := trT_le h (by omega)
  refine lp_nat (fun q σ w => ∃ (r M kk : Nat) (s : St) (fr used : List Nat), σ = [.int .i64 (M : Nat), .int .i64 r] ∧ q = 5 - r ∧ r ≤ x.toNat % 5 + 1 ∧ M ≤ 1000 ∧ kk ≤ 80 * r ∧ (0 < r → 1 + (KV l n).length / 2 ≤ M + 2) ∧ Sp l s fr used (22 * r) 0 ∧ sat E w (trT tb A 289 s 0 kk (800000 + 4000 * (5 - r)) * H)) 5 ⟨0, 0, 0, s00, [], [], rfl, rfl, by omega, by omega, by omega, fun h => by omega, Sp.start l, h⟩ ?_
  clear h
  rintro q σ w again ⟨r, M, kk, s, fr, used, rfl, rfl, hr, hM2, hkk, hM, hs, h⟩ hag
  rw [pop_cons, pop_cons, fin_nil]
  unfold bv
  simp only [↓opsA, opsB, if_true, if_false, ↓reduceIte]
  rw [i64_of (n := (x.toNat : Int)) (by omega) (by omega), o_rem (by decide)]
  simp only [↓opsA, opsB, if_true, if_false, ↓reduceIte]
  rw [hR, i64_of (n := ((x.toNat % 5 + 1 : Nat) : Int)) (by omega) (by omega)]
  refine cd_dec (fun hlt => ?_) (fun hge => k w h.drop)
  have hlt : r < x.toNat % 5 + 1 := by omega
  have h : sat E w (trT tb A 289 s 0 kk (((800000 + 4000 * (5 - (r + 1))) + 300 + 33 * 40) + 300 + 30 * 40) * H) := trT_le h (by omega)
  have hrd := round (K := K) (al := al) (cl := cl) (M := M) (r := r) hn hnl hnn (by omega) hs (by omega) (by omega) (by omega) hM hM2 hlr h (again9 := again) fun M' s' fr' used' kk' w' hs' h1 h2 h3 h => hag (5 - (r + 1)) _ _ (by omega) ⟨r + 1, M', kk', s', fr', used', rfl, rfl, by omega, h2, by omega, fun _ => h1, by rw [show 22 * (r + 1) = 22 + 22 * r by omega]; exact hs', h⟩
  simp only [↓opsA, opsB, if_true, if_false, ↓reduceIte] at hrd
  exact hrd
end Go.Proofs.YtfaeklinhchidaaGreat.Space
