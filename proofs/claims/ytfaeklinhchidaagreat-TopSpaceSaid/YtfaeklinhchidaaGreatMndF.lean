/-
  A leaf gives to its neighbour.
-/
import Derived.Test.YtfaeklinhchidaaGreatPrsB
set_option linter.all false
set_option maxRecDepth 100000
namespace Go.Proofs.YtfaeklinhchidaaGreat
open Go Hold
variable {E : World0} {w : World} {H R X : HP} {K : Value → World → Prop}
theorem elv_key {xs : List Ev} {j : Nat} (hj : j < xs.length) {x' : Ev} (h1 : x'.vv = xs[j].vv) (h2 : x'.e.pg = xs[j].e.pg) (sp : List Value) : (elv xs ++ sp).set (j * 3) x'.kv = elv (xs.set j x') ++ sp := by
  have hl := elv_len xs
  have hd := elv_at hj
  have e1 : (elv xs).drop (j * 3 + 1) = [xs[j].vv, .int .i64 xs[j].e.pg] ++ (elv xs).drop (j * 3 + 3) := by
    have e2 : (elv xs).drop (j * 3) = ecells xs[j] ++ (elv xs).drop (j * 3 + 3) := by
      rw [← hd, ← List.drop_drop, List.take_append_drop]
    rw [← List.drop_drop, e2]
    rfl
  rw [List.set_append_left _ _ (by omega), List.set_eq_take_append_cons_drop, if_pos (by omega), e1, ← elv_set hj x']
  show _ = (elv xs).take (j * 3) ++ [x'.kv, x'.vv, .int .i64 x'.e.pg] ++ (elv xs).drop (j * 3 + 3) ++ sp
  rw [h1, h2]
  simp
theorem split_end {C : Cx} {c m : Nat} {s s1 s' : St} {n0 t1 ab bb ob lb rb i at_ : Nat} {xs zs : List Ev} {lv lvb vl vr : Value} {φ : PP} (hm : C.mo = some m) (hi : i + 1 < xs.length) (hf : Few xs) (hfz : Few zs) (hae : halfP ⟨true, esv zs⟩ = at_) (hat : at_ < zs.length)
    (hw1 : putS C.N s xs[i].e.pg (.node ⟨true, (esv zs).take at_⟩) = some s1) (hw2 : putS C.N s1 xs[i + 1].e.pg (.node ⟨true, (esv zs).drop at_⟩) = some s')
    (hx : ∀ I, φ.p I → ∀ x ∈ xs, evJ I x) (hz : ∀ I, φ.p I → (∀ z ∈ zs, evJ I z) ∧ RdS I lvb zs.length (elv zs))
    (h : sat E w (chg C c s * (bxN lb true vl * (bxN rb true vr * (osl 67 3 lv xs.length (elv xs) * (bxN n0 false lv * (pts t1 (.cells [Value.bool false, .slice none 0 0].toArray 63 (0, 0)) * (pts ab (.cells (ecells xs[i]).toArray 67 (0, 0)) * (pts bb (.cells (ecells xs[i + 1]).toArray 67 (0, 0)) * (bxN ob true lvb * (pers φ * R)))))))))))
    (k : ∀ lv' ys w', esv ys = (esv xs).set (i + 1) { xs[i + 1].e with k := zs[at_].e.k } → Few ys → sat E w' (osl 67 3 lv' ys.length (elv ys) * (pers (evP ys) * (chg C c s' * (pers φ * R)))) → K (nv false lv') w') : (
          ldv prog (Instr.loadAt 63 (.pointer (some ⟨ob, 0, none⟩))) w fun t_111 w =>
          Calls prog 118 #[t_111] w (Ret fun t_112 w =>
          dr w fun w =>
          pvv prog (Instr.fieldAt 63 (.pointer (some ⟨ob, 0, none⟩)) 1) w fun t_113 w =>
          pvv prog (Instr.fieldAt 63 (.pointer (some ⟨ob, 0, none⟩)) 1) w fun t_114 w =>
          bindS (vN (Instr.loadAt 61 t_113)) fun m_116 => ldv prog (Instr.loadAt 61 t_113) w fun t_115 w =>
          pvv prog (Instr.sliceAt 61 t_115 none (some t_112) (some t_112)) w fun t_117 w =>
          pvv prog (Instr.fieldAt 63 (.pointer (some ⟨lb, 0, none⟩)) 1) w fun t_118 w =>
          bindS (vN (Instr.loadAt 61 t_114)) fun m_120 => ldv prog (Instr.loadAt 61 t_114) w fun t_119 w =>
          pvv prog (Instr.sliceAt 61 t_119 (some t_112) none none) w fun t_121 w =>
          efu prog (Instr.storeAt 61 t_118 t_117) w fun u_122 w => stay prog none m_120 t_119 w <| 
          pvv prog (Instr.fieldAt 63 (.pointer (some ⟨rb, 0, none⟩)) 1) w fun t_123 w =>
          efu prog (Instr.storeAt 61 t_123 t_121) w fun u_124 w =>
          dr w fun w =>
          pv prog (oNil (.pointer (some ⟨C.cb, 0, none⟩))) w fun t_125 w =>
          pvv prog (Instr.fieldAt 124 t_125 2) w fun t_126 w =>
          pvv prog (Instr.fieldAt 67 (.pointer (some ⟨ab, 0, none⟩)) 2) w fun t_127 w =>
          pv prog (oNil (.pointer (some ⟨C.cb, 0, none⟩))) w fun t_128 w =>
          pvv prog (Instr.fieldAt 124 t_128 2) w fun t_129 w =>
          pvv prog (Instr.fieldAt 67 (.pointer (some ⟨bb, 0, none⟩)) 2) w fun t_130 w =>
          bindS (vN (Instr.loadAt 117 t_126)) fun m_132 => ldv prog (Instr.loadAt 117 t_126) w fun t_131 w =>
          bindS (vN (Instr.loadAt 3 t_127)) fun m_134 => ldv prog (Instr.loadAt 3 t_127) w fun t_133 w =>
          bindS (vN (Instr.loadAt 117 t_129)) fun m_136 => ldv prog (Instr.loadAt 117 t_129) w fun t_135 w =>
          bindS (vN (Instr.loadAt 3 t_130)) fun m_138 => ldv prog (Instr.loadAt 3 t_130) w fun t_137 w =>
          bindS (vN (Instr.loadAt 63 (.pointer (some ⟨lb, 0, none⟩)))) fun m_140 => ldv prog (Instr.loadAt 63 (.pointer (some ⟨lb, 0, none⟩))) w fun t_139 w =>
          bindS (vN (Instr.loadAt 63 (.pointer (some ⟨rb, 0, none⟩)))) fun m_142 => ldv prog (Instr.loadAt 63 (.pointer (some ⟨rb, 0, none⟩))) w fun t_141 w =>
          Calls prog 50 #[t_139] w (Ret fun t_143 w => stay prog none m_142 t_141 w <| stay prog none m_138 t_137 w <| stay prog none m_136 t_135 w <| stay prog none m_134 t_133 w <| stay prog none m_132 t_131 w <| 
          Calls prog 50 #[t_141] w (Ret fun t_144 w => stay prog none m_140 t_139 w <| stay prog none m_138 t_137 w <| stay prog none m_136 t_135 w <| stay prog none m_134 t_133 w <| stay prog none m_132 t_131 w <| 
          efv prog (Instr.mapEntry 117 t_131 t_133) w fun t_145 w => stay prog none m_142 t_141 w <| stay prog none m_140 t_139 w <| stay prog none m_138 t_137 w <| 
          pvv prog (Instr.extract t_145 1) w fun t_146 w =>
          efu prog (Instr.entryStore 117 t_131 t_146 t_143) w fun u_147 w => stay prog none m_142 t_141 w <| stay prog none m_138 t_137 w <| 
          efv prog (Instr.mapEntry 117 t_135 t_137) w fun t_148 w => stay prog none m_142 t_141 w <| 
          pvv prog (Instr.extract t_148 1) w fun t_149 w =>
          efu prog (Instr.entryStore 117 t_135 t_149 t_144) w fun u_150 w =>
          pvv prog (Instr.fieldAt 63 (.pointer (some ⟨n0, 0, none⟩)) 1) w fun t_151 w =>
          ldv prog (Instr.loadAt 61 t_151) w fun t_152 w =>
          Calls prog 84 #[t_152] w (Ret fun t_153 w =>
          pvv prog (binOp .add 3 (.int .i64 i) (.int .i64 1)) w fun t_154 w =>
          pvv prog (Instr.fieldAt 63 (.pointer (some ⟨rb, 0, none⟩)) 1) w fun t_155 w =>
          ldv prog (Instr.loadAt 61 t_155) w fun t_156 w =>
          pvv prog (Instr.indexAt 61 t_156 (.int .i64 0)) w fun t_157 w =>
          pvv prog (Instr.fieldAt 67 t_157 0) w fun t_158 w =>
          ldv prog (Instr.loadAt 22 t_158) w fun t_159 w =>
          pvv prog (Instr.indexAt 61 t_153 t_154) w fun t_160 w =>
          pvv prog (Instr.fieldAt 67 t_160 0) w fun t_161 w =>
          efu prog (Instr.storeAt 22 t_161 t_159) w fun u_162 w =>
          pvv prog (Instr.build 63 #[(0, (.bool false)), (1, t_153)]) w fun t_163 w =>
          efu prog (Instr.storeAt 63 (.pointer (some ⟨t1, 0, none⟩)) t_163) w fun u_164 w =>
          ∃ r_165, (do loadVar 63 (← asAddr (.pointer (some ⟨t1, 0, none⟩)))).run prog w = .ok r_165 w ∧ K r_165 w))))) := by
  have hf1 := hf.1
  have hfz1 := hfz.1
  generalize hF : (osl 67 3 lv xs.length (elv xs) * (bxN n0 false lv * (pts t1 (.cells [Value.bool false, .slice none 0 0].toArray 63 (0, 0)) * (pts ab (.cells (ecells xs[i]).toArray 67 (0, 0)) * (pts bb (.cells (ecells xs[i + 1]).toArray 67 (0, 0)) * (bxN ob true lvb * (pers φ * R))))))) = F at h
  have hb : ∀ {w : World} {Y : HP}, sat E w (Y * F) → sat E w (pts bb (.cells (ecells xs[i + 1]).toArray 67 (0, 0)) * (Y * (osl 67 3 lv xs.length (elv xs) * (bxN n0 false lv * (pts t1 (.cells [Value.bool false, .slice none 0 0].toArray 63 (0, 0)) * (pts ab (.cells (ecells xs[i]).toArray 67 (0, 0)) * (bxN ob true lvb * (pers φ * R)))))))) := fun h => by rw [← hF] at h; exact h.perm (by ac_rfl)
  have ha : ∀ {w : World} {Y : HP}, sat E w (Y * F) → sat E w (pts ab (.cells (ecells xs[i]).toArray 67 (0, 0)) * (Y * (osl 67 3 lv xs.length (elv xs) * (bxN n0 false lv * (pts t1 (.cells [Value.bool false, .slice none 0 0].toArray 63 (0, 0)) * (pts bb (.cells (ecells xs[i + 1]).toArray 67 (0, 0)) * (bxN ob true lvb * (pers φ * R)))))))) := fun h => by rw [← hF] at h; exact h.perm (by ac_rfl)
  have ho : ∀ {w : World} {Y : HP}, sat E w (Y * F) → sat E w (pts ob (.cells [Value.bool true, lvb].toArray 63 (0, 0)) * (Y * (osl 67 3 lv xs.length (elv xs) * (bxN n0 false lv * (pts t1 (.cells [Value.bool false, .slice none 0 0].toArray 63 (0, 0)) * (pts ab (.cells (ecells xs[i]).toArray 67 (0, 0)) * (pts bb (.cells (ecells xs[i + 1]).toArray 67 (0, 0)) * (pers φ * R)))))))) := fun h => by rw [← hF] at h; exact h.perm (by unfold bxN; ac_rfl)
  have hn : ∀ {w : World} {Y : HP}, sat E w (Y * F) → sat E w (pts n0 (.cells [Value.bool false, lv].toArray 63 (0, 0)) * (Y * (osl 67 3 lv xs.length (elv xs) * (bxN ob true lvb * (pts t1 (.cells [Value.bool false, .slice none 0 0].toArray 63 (0, 0)) * (pts ab (.cells (ecells xs[i]).toArray 67 (0, 0)) * (pts bb (.cells (ecells xs[i + 1]).toArray 67 (0, 0)) * (pers φ * R)))))))) := fun h => by rw [← hF] at h; exact h.perm (by unfold bxN; ac_rfl)
  have hFz : Rds F lvb zs.length (elv zs) := fun E w hs => by
    rw [← hF] at hs
    exact (hz _ (hs.drop.drop.drop.drop.drop.drop.pers_get)).2
  have hFe : ∀ z ∈ zs, EvR F z := fun z hm => .of fun E w hs => by
    rw [← hF] at hs
    exact (hz _ (hs.drop.drop.drop.drop.drop.drop.pers_get)).1 z hm
  have hFx : Rds F lv xs.length (elv xs) := by rw [← hF]; exact Rds.osl.left
  obtain ⟨av, cv, rfl, _, _, _⟩ := hFx.shape h.drop.drop.drop
  obtain ⟨ao, co, rfl, hco, _, _⟩ := hFz.shape h.drop.drop.drop
  have h := h.perm (show _ = (bxN lb true vl * (bxN rb true vr * chg C c s)) * F by ac_rfl)
  refine ld_agg (b := ob) (ho h) rfl ?_
  refine half_spec h (leaf := true) hFz.right hfz (by omega) fun w h => ?_
  rw [hae]
  obtain ⟨b, o1, e5, _⟩ := ld_ev h hFz.right hat
  subst e5
  refine dr_sl h fun w h _ => ?_
  try simp only [↓opsA, opsB, if_true, if_false, ↓reduceIte]
  refine ld_in (b := ob) (v := .slice (some ⟨b, o1, none⟩) zs.length co) (ho h) rfl ?_
  rw [o_slice_hm (by omega) (by omega) (by omega)]
  try simp only [↓opsA, opsB, if_true, if_false, ↓reduceIte, Int.toNat_natCast]
  refine ld_in (b := ob) (v := .slice (some ⟨b, o1, none⟩) zs.length co) (ho h) rfl ?_
  rw [o_slice_l (by omega) (by omega), cutA_at, if_neg (by omega)]
  simp only [Int.toNat_natCast]
  have h := h.perm (show _ = pts lb (.cells [Value.bool true, vl].toArray 63 (0, 0)) * ((bxN rb true vr * chg C c s) * F) by unfold bxN; ac_rfl)
  refine store_at (b := lb) h rfl (by simp) fun w h => ?_
  have h : sat E w (bxN lb true (.slice (some ⟨b, o1, none⟩) at_ at_) * ((bxN rb true vr * chg C c s) * F)) := h
  refine st_in (b := ob) (ho (h.perm (star_assoc _ _ _).symm)) rfl ?_
  have h := h.perm (show _ = pts rb (.cells [Value.bool true, vr].toArray 63 (0, 0)) * ((bxN lb true (.slice (some ⟨b, o1, none⟩) at_ at_) * chg C c s) * F) by unfold bxN; ac_rfl)
  refine store_at (b := rb) h rfl (by simp) fun w h => ?_
  have h : sat E w (bxN rb true (.slice (some ⟨b, o1 + at_ * 3, none⟩) (zs.length - at_) (co - at_)) * ((bxN lb true (.slice (some ⟨b, o1, none⟩) at_ at_) * chg C c s) * F)) := h
  refine dr_sl h fun w h _ => ?_
  try simp only [↓opsA, opsB, if_true, if_false, ↓reduceIte]
  generalize hG : bxN rb true (.slice (some ⟨b, o1 + at_ * 3, none⟩) (zs.length - at_) (co - at_)) * (bxN lb true (.slice (some ⟨b, o1, none⟩) at_ at_) * F) = G
  have h : sat E w (chg C c s * G) := by rw [← hG]; exact h.perm (by ac_rfl)
  have hGF : ∀ {w : World} {Y : HP}, sat E w (Y * G) → sat E w ((Y * (bxN rb true (.slice (some ⟨b, o1 + at_ * 3, none⟩) (zs.length - at_) (co - at_)) * bxN lb true (.slice (some ⟨b, o1, none⟩) at_ at_))) * F) := fun h => by rw [← hG] at h; exact h.perm (by ac_rfl)
  have hL : ∀ {w : World} {Y : HP}, sat E w (Y * G) → sat E w (pts lb (.cells [Value.bool true, .slice (some ⟨b, o1, none⟩) at_ at_].toArray 63 (0, 0)) * (Y * (bxN rb true (.slice (some ⟨b, o1 + at_ * 3, none⟩) (zs.length - at_) (co - at_)) * F))) := fun h => by rw [← hG] at h; exact h.perm (by unfold bxN; ac_rfl)
  have hRr : ∀ {w : World} {Y : HP}, sat E w (Y * G) → sat E w (pts rb (.cells [Value.bool true, .slice (some ⟨b, o1 + at_ * 3, none⟩) (zs.length - at_) (co - at_)].toArray 63 (0, 0)) * (Y * (bxN lb true (.slice (some ⟨b, o1, none⟩) at_ at_) * F))) := fun h => by rw [← hG] at h; exact h.perm (by unfold bxN; ac_rfl)
  have hcb : ∀ {w : World} {Y : HP} {s0 : St}, sat E w (Y * (chg C c s0 * G)) → sat E w (pts C.cb (.cells (ccells C s0).toArray 124 (0, 0)) * (pts C.tb (.cells (tcells C).toArray 73 (0, 0)) * (chM C.mo C.N C.ct s0.cc s0.w * (pX C.A C.N C.ct 0 C.kk c * (Y * G))))) := fun h => sat_chg.1 (h.perm (star_left_comm _ _ _))
  have hGz : Rds G (.slice (some ⟨b, o1, none⟩) zs.length co) zs.length (elv zs) := by rw [← hG]; exact hFz.right.right
  have hGe : ∀ z ∈ zs, EvR G z := fun z hm => by rw [← hG]; exact (hFe z hm).right.right
  have h0 : sat E w (emp * (chg C c s * G)) := by rw [emp_star]; exact h
  refine ld_in (b := C.cb) (v := .map C.mo) (hcb h0) rfl ?_
  refine ld_in (b := ab) (v := .int .i64 xs[i].e.pg) (ha (hGF h)) rfl ?_
  refine ld_in (b := C.cb) (v := .map C.mo) (hcb h0) rfl ?_
  refine ld_in (b := bb) (v := .int .i64 xs[i + 1].e.pg) (hb (hGF h)) rfl ?_
  refine ld_agg (b := lb) (hL h) rfl ?_
  refine ld_agg (b := rb) (hRr h) rfl ?_
  obtain ⟨hp1, hy1, hs1⟩ := putS_some hw1
  obtain ⟨hp2, hy2, hs2⟩ := putS_some hw2
  rw [← esv_take] at hy1 hw1
  rw [← esv_drop] at hy2 hw2
  have hlt : (zs.take at_).length = at_ := by rw [List.length_take]; omega
  have hld : (zs.drop at_).length = zs.length - at_ := List.length_drop
  have hrl : Rds G (.slice (some ⟨b, o1, none⟩) at_ at_) (zs.take at_).length (elv (zs.take at_)) := by rw [hlt]; exact rds_takeE hGz (Nat.le_refl _)
  have hrr : Rds G (.slice (some ⟨b, o1 + at_ * 3, none⟩) (zs.length - at_) (co - at_)) (zs.drop at_).length (elv (zs.drop at_)) := by rw [hld]; exact rds_dropE hGz hld.symm (by omega) (by omega)
  refine page_spec h (leaf := true) hrl.right (fun x hm => (hGe x (List.mem_of_mem_take hm)).right) hy1 fun b1 w h => ?_
  generalize hbx : pts b1 (.cells ((pad (⟨true, esv (zs.take at_)⟩ : Nd).raw).map bv).toArray 5 (0, 0)) = B1 at h
  have h2 := h.perm (show _ = (B1 * chg C c s) * G by ac_rfl)
  refine st_agg (b := rb) (hRr h2) rfl ?_
  refine st_in (b := bb) (v := .int .i64 xs[i + 1].e.pg) (hb (hGF h2)) rfl ?_
  refine st_in (b := C.cb) (xs := ccells C s) (hcb h) rfl ?_
  refine st_in (b := ab) (v := .int .i64 xs[i].e.pg) (ha (hGF h2)) rfl ?_
  refine st_in (b := C.cb) (xs := ccells C s) (hcb h) rfl ?_
  clear h2
  refine page_spec h (leaf := true) hrr.right.right (fun x hm => ((hGe x (List.mem_of_mem_drop hm)).right).right) hy2 fun b2 w h => ?_
  generalize hbx2 : pts b2 (.cells ((pad (⟨true, esv (zs.drop at_)⟩ : Nd).raw).map bv).toArray 5 (0, 0)) = B2 at h
  have h2 := h.perm (show _ = (B2 * (B1 * chg C c s)) * G by ac_rfl)
  have hcb2 := hcb (h.perm (show _ = (B2 * B1) * (chg C c s * G) by ac_rfl))
  refine st_agg (b := lb) (hL h2) rfl ?_
  refine st_in (b := bb) (v := .int .i64 xs[i + 1].e.pg) (hb (hGF h2)) rfl ?_
  refine st_in (b := C.cb) (xs := ccells C s) hcb2 rfl ?_
  refine st_in (b := ab) (v := .int .i64 xs[i].e.pg) (ha (hGF h2)) rfl ?_
  refine st_in (b := C.cb) (xs := ccells C s) hcb2 rfl ?_
  clear h2 hcb2
  rw [← hbx2] at h
  have h := row_stay (PgC.len (x := .node ⟨true, esv (zs.drop at_)⟩) hy2) h
  generalize hP2 : pers (immS (.slice (some ⟨b2, 0, none⟩) 256 256) 256 ((PgC.node ⟨true, esv (zs.drop at_)⟩).bytes.map bv)) = P2 at h
  have h := h.perm (show _ = B1 * (P2 * (chg C c s * G)) by ac_rfl)
  rw [← hbx] at h
  have h := row_stay (PgC.len (x := .node ⟨true, esv (zs.take at_)⟩) hy1) h
  generalize hP1 : pers (immS (.slice (some ⟨b1, 0, none⟩) 256 256) 256 ((PgC.node ⟨true, esv (zs.take at_)⟩).bytes.map bv)) = P1 at h
  have h := h.perm (show _ = chg C c s * (P1 * (P2 * G)) by ac_rfl)
  refine chg_entry hm h fun u1 n1 w h => ?_
  have h2 := h.perm (show _ = (chgE C c s m xs[i].e.pg n1 * (P1 * P2)) * G by ac_rfl)
  refine st_agg (b := rb) (hRr h2) rfl ?_
  refine st_agg (b := lb) (hL h2) rfl ?_
  refine st_in (b := bb) (v := .int .i64 xs[i + 1].e.pg) (hb (hGF h2)) rfl ?_
  clear h2
  try simp only [↓opsA, opsB, if_true, if_false, ↓reduceIte]
  have h := h.perm (show _ = P1 * (chgE C c s m xs[i].e.pg n1 * (P2 * G)) by ac_rfl)
  rw [← hP1] at h
  refine chg_store hm hw1 h fun w h => ?_
  have h2 := h.perm (show _ = (chg C c s1 * P2) * G by ac_rfl)
  refine st_agg (b := rb) (hRr h2) rfl ?_
  refine st_in (b := bb) (v := .int .i64 xs[i + 1].e.pg) (hb (hGF h2)) rfl ?_
  clear h2
  refine chg_entry hm h fun u2 n2 w h => ?_
  refine st_agg (b := rb) (hRr (h.perm (show _ = (chgE C c s1 m xs[i + 1].e.pg n2 * P2) * G by ac_rfl))) rfl ?_
  try simp only [↓opsA, opsB, if_true, if_false, ↓reduceIte]
  have h := h.perm (show _ = P2 * (chgE C c s1 m xs[i + 1].e.pg n2 * G) by ac_rfl)
  rw [← hP2] at h
  refine chg_store hm hw2 h fun w h => ?_
  refine ld_in (b := n0) (v := .slice av xs.length cv) (hn (hGF h)) rfl ?_
  refine CloneE_spec (hGF h) hFx.right (elv_len xs) (by omega) (elv_one xs) fun v' w h => ?_
  obtain ⟨b6, c6, sp, rfl, hxl, htot, hnc, hcm, h⟩ := row_open h (by omega)
  have hG2 : ∀ {w : World} {Y : HP}, sat E w (Y * ((chg C c s' * (bxN rb true (.slice (some ⟨b, o1 + at_ * 3, none⟩) (zs.length - at_) (co - at_)) * bxN lb true (.slice (some ⟨b, o1, none⟩) at_ at_))) * F)) → sat E w ((Y * chg C c s') * G) := fun h => by rw [← hG]; exact h.perm (by ac_rfl)
  refine ld_in (b := rb) (v := .slice (some ⟨b, o1 + at_ * 3, none⟩) (zs.length - at_) (co - at_)) (hRr (hG2 h)) rfl ?_
  rw [o_index (by omega) (by omega)]
  try simp only [↓opsA, opsB, if_true, if_false, ↓reduceIte, Int.toNat_zero, Nat.zero_mul, Nat.add_zero]
  have hkv : (elv zs)[at_ * 3]? = some zs[at_].kv := by
    have := elv_at hat
    exact take_cell (o := at_ * 3) (j := 0) this rfl
  refine ld_rd (hG2 h) hGz.right (at_ * 3) rfl hkv ?_
  rw [show (i : Int) + 1 = ((i + 1 : Nat) : Int) by omega, i64_of (n := ((i + 1 : Nat) : Int)) (by omega) (by omega), o_index (by omega) (by omega)]
  try simp only [↓opsA, opsB, if_true, if_false, ↓reduceIte, Int.toNat_natCast, Nat.zero_add, Nat.add_zero]
  let x' : Ev := ⟨zs[at_].ka, zs[at_].kc, xs[i + 1].va, xs[i + 1].vc, { xs[i + 1].e with k := zs[at_].e.k }⟩
  refine store_sl (b := b6) (v := x'.kv) h rfl (by rw [List.length_append, elv_len]; omega) fun w h => ?_
  rw [elv_key hi (x' := x') rfl rfl] at h
  have h := row_shut h (by rw [elv_len, List.length_set]) (by rw [List.length_append, elv_len, List.length_set]; rw [List.length_append, elv_len] at htot; exact htot) hnc hcm
  refine pvv_of (v := nv false (.slice (some ⟨b6, 0, none⟩) xs.length c6)) (fun w => by kernel_rfl) ?_
  rw [← hF] at h
  have h := h.perm (show _ = pts t1 (.cells [Value.bool false, .slice none 0 0].toArray 63 (0, 0)) * (osl 67 3 (.slice (some ⟨b6, 0, none⟩) xs.length c6) xs.length (elv (xs.set (i + 1) x')) * (chg C c s' * ((bxN rb true (.slice (some ⟨b, o1 + at_ * 3, none⟩) (zs.length - at_) (co - at_)) * bxN lb true (.slice (some ⟨b, o1, none⟩) at_ at_)) * (osl 67 3 (.slice av xs.length cv) xs.length (elv xs) * (bxN n0 false (.slice av xs.length cv) * (pts ab (.cells (ecells xs[i]).toArray 67 (0, 0)) * (pts bb (.cells (ecells xs[i + 1]).toArray 67 (0, 0)) * (bxN ob true (.slice (some ⟨b, o1, none⟩) zs.length co) * (pers φ * R))))))))) by ac_rfl)
  refine res_all (b := t1) h (vs := [Value.bool false, .slice (some ⟨b6, 0, none⟩) xs.length c6]) rfl rfl (by simp [Value.oneCell']) fun w h => ?_
  have hmz := hfz.2 zs[at_] (List.getElem_mem _)
  have hmx := hf.2 xs[i + 1] (List.getElem_mem _)
  refine k _ (xs.set (i + 1) x') w (by unfold esv; rw [List.map_set]) ⟨by rw [List.length_set]; omega, fun y hy => ?_⟩ ?_
  · rcases List.mem_or_eq_of_mem_set hy with hy | rfl
    · exact hf.2 y hy
    · exact ⟨hmz.1, hmx.2⟩
  · have h := h.perm (show _ = (pts t1 (.cells [Value.bool false, .slice (some ⟨b6, 0, none⟩) xs.length c6].toArray 63 (0, 0)) * ((bxN rb true (.slice (some ⟨b, o1 + at_ * 3, none⟩) (zs.length - at_) (co - at_)) * bxN lb true (.slice (some ⟨b, o1, none⟩) at_ at_)) * (osl 67 3 (.slice av xs.length cv) xs.length (elv xs) * (bxN n0 false (.slice av xs.length cv) * (pts ab (.cells (ecells xs[i]).toArray 67 (0, 0)) * (pts bb (.cells (ecells xs[i + 1]).toArray 67 (0, 0)) * bxN ob true (.slice (some ⟨b, o1, none⟩) zs.length co))))))) * (pers φ * (osl 67 3 (.slice (some ⟨b6, 0, none⟩) xs.length c6) xs.length (elv (xs.set (i + 1) x')) * (chg C c s' * R))) by ac_rfl)
    have h := h.drop.pers_new (ψ := evP (xs.set (i + 1) x')) fun I hI y hy => by
      rcases List.mem_or_eq_of_mem_set hy with hy | rfl
      · exact hx I hI y hy
      · exact ⟨((hz I hI).1 zs[at_] (List.getElem_mem _)).1, (hx I hI xs[i + 1] (List.getElem_mem _)).2⟩
    rw [List.length_set]
    exact h.perm (by ac_rfl)
end Go.Proofs.YtfaeklinhchidaaGreat

/-
  Two leaves become one, or one gives to the other.
-/
set_option linter.all false
set_option maxRecDepth 100000
namespace Go.Proofs.YtfaeklinhchidaaGreat
open Go Hold
variable {E : World0} {w : World} {H R X : HP} {K : Value → World → Prop}
theorem slots_start {φ : Nat → Value → PP} {n : Nat} (h : sat E w H) : sat E w (slots φ (List.replicate n none) H) := by
  unfold slots
  refine h.mono fun I h' hp' => (pers_star_p _ _ _ _).2 ⟨?_, hp'⟩
  intro k v hv
  rw [List.getElem?_replicate] at hv
  split at hv <;> cases hv
theorem ptrO_none {σ : List (Option Value)} {p : Nat} {o : Option Nat} (h1 : σ[p]? = some (ptrO o)) (h2 : σ[p]? = some none) : o = none := by
  rw [h1] at h2
  cases o with
  | none => rfl
  | some b => simp [ptrO] at h2
def φB (lvl lvr : Value) (n : Nat) (zs : List Value) : Nat → Value → PP := fun j v => match j with
  | 0 => ⟨fun I => ∃ b, v = .slice (some ⟨b, 0, none⟩) 2 2 ∧ RdS I v 2 [lvl, lvr], fun hI ⟨b, e, h⟩ => ⟨b, e, h.mono hI⟩⟩
  | 2 => ⟨fun I => RdS I v n zs, fun hI h => h.mono hI⟩
  | 3 => ⟨fun I => ∃ v2, v = nv true v2 ∧ RdS I v2 n zs, fun hI ⟨b, e, h⟩ => ⟨b, e, h.mono hI⟩⟩
  | _ => ppOf True
def boxJ (E : World0) (φ : Nat → Value → PP) (H : HP) (σ : List (Option Value)) (w : World) : Prop := ∃ o, σ[1]? = some (ptrO o) ∧ 1 < σ.length ∧ sat E w (slots φ σ (ob [Value.bool false, .slice none 0 0] 63 o * H))
theorem both_part {C : Cx} {c m : Nat} {s s' : St} {n0 t1 ab bb lb rb i : Nat} {xs ls rs : List Ev} {lv lvl lvr : Value} {φ : PP} {n' : Nd} (hm : C.mo = some m) (hi : i + 1 < xs.length) (hf : Few xs) (hfl : Few ls) (hfr : Few rs) (hll : ls.length ≤ 126) (hlr : rs.length ≤ 126)
    (hx : ∀ I, φ.p I → ∀ x ∈ xs, evJ I x) (hz : ∀ I, φ.p I → ((∀ z ∈ ls, evJ I z) ∧ RdS I lvl ls.length (elv ls)) ∧ (∀ z ∈ rs, evJ I z) ∧ RdS I lvr rs.length (elv rs))
    (hres : (if (⟨true, esv ls ++ esv rs⟩ : Nd).bytes ≤ 253 then
          (giveS C.N s xs[i + 1].e.pg).bind fun s1 => (putS C.N s1 xs[i].e.pg (.node ⟨true, esv ls ++ esv rs⟩)).bind fun s2 => some (⟨false, (esv xs).eraseIdx (i + 1)⟩, s2)
        else ((esv ls ++ esv rs)[halfP ⟨true, esv ls ++ esv rs⟩]?).bind fun e =>
          (putS C.N s xs[i].e.pg (.node ⟨true, (esv ls ++ esv rs).take (halfP ⟨true, esv ls ++ esv rs⟩)⟩)).bind fun s1 =>
          (putS C.N s1 xs[i + 1].e.pg (.node ⟨true, (esv ls ++ esv rs).drop (halfP ⟨true, esv ls ++ esv rs⟩)⟩)).bind fun s2 =>
          some (⟨false, (esv xs).set (i + 1) { xs[i + 1].e with k := e.k }⟩, s2)) = some (n', s'))
    (h : sat E w (chg C c s * (pts lb (.cells [Value.bool false, .slice none 0 0].toArray 63 (0, 0)) * (pts rb (.cells [Value.bool false, .slice none 0 0].toArray 63 (0, 0)) * (osl 67 3 lv xs.length (elv xs) * (bxN n0 false lv * (pts t1 (.cells [Value.bool false, .slice none 0 0].toArray 63 (0, 0)) * (pts ab (.cells (ecells xs[i]).toArray 67 (0, 0)) * (pts bb (.cells (ecells xs[i + 1]).toArray 67 (0, 0)) * (pers φ * R))))))))))
    (k : ∀ lv' ys w', n'.leaf = false → esv ys = n'.l → Few ys → sat E w' (osl 67 3 lv' ys.length (elv ys) * (pers (evP ys) * (chg C c s' * (pers φ * R)))) → K (nv false lv') w') : (
      efu prog (Instr.storeAt 63 (.pointer (some ⟨lb, 0, none⟩)) (nv true lvl)) w fun u_60 w => stay prog none (vN (Instr.loadAt 3 (.pointer (some ⟨bb, 2, none⟩)))) (.int .i64 xs[i + 1].e.pg) w <| 
      efu prog (Instr.storeAt 63 (.pointer (some ⟨rb, 0, none⟩)) (nv true lvr)) w fun u_61 w =>
      jn (fun σ w => fin σ <|
        dr w fun w =>
        pvv prog (Instr.fieldAt 63 (.pointer (some ⟨lb, 0, none⟩)) 0) w fun t_62 w =>
        pvv prog (Instr.fieldAt 63 (.pointer (some ⟨lb, 0, none⟩)) 1) w fun t_63 w =>
        pvv prog (Instr.fieldAt 63 (.pointer (some ⟨rb, 0, none⟩)) 1) w fun t_64 w =>
        bindS (vN (Instr.loadAt 4 t_62)) fun m_66 => ldv prog (Instr.loadAt 4 t_62) w fun t_65 w =>
        bindS (vN (Instr.loadAt 61 t_63)) fun m_68 => ldv prog (Instr.loadAt 61 t_63) w fun t_67 w =>
        bindS (vN (Instr.loadAt 61 t_64)) fun m_70 => ldv prog (Instr.loadAt 61 t_64) w fun t_69 w =>
        par 4 w fun J_71 =>
          (∀ (σ : List (Option Value)) (w : World), J_71 σ w → un σ 0 (efv prog (Instr.buildSlice 204 2 #[(0, t_67), (1, t_69)]) w fun v_72 w => stay prog none m_66 t_65 w <| J_71 (σ.set 0 (some v_72)) w)) ∧
          (∀ (σ : List (Option Value)) (w : World), J_71 σ w → un σ 1 (efv prog (Instr.alloc 63 true (.tuple #[])) w fun v_73 w => stay prog none m_70 t_69 w <| stay prog none m_68 t_67 w <| stay prog none m_66 t_65 w <| J_71 (σ.set 1 (some v_73)) w)) ∧
          (∀ (σ : List (Option Value)) (w : World), J_71 σ w → un σ 2 (is σ 0 fun t_74 => Calls prog 120 #[t_74] w (Ret fun v_75 w => stay prog none m_70 t_69 w <| stay prog none m_68 t_67 w <| stay prog none m_66 t_65 w <| J_71 (σ.set 2 (some v_75)) w))) ∧
          (∀ (σ : List (Option Value)) (w : World), J_71 σ w → un σ 3 (is σ 2 fun t_76 => pvv prog (Instr.build 63 #[(0, t_65), (1, t_76)]) w fun v_77 w => J_71 (σ.set 3 (some v_77)) w)) ∧
          ∀ (σ : List (Option Value)) (w : World), J_71 σ w → is σ 0 fun t_78 => is σ 1 fun bothv_79 => is σ 2 fun t_80 => is σ 3 fun t_81 => 
          efu prog (Instr.storeAt 63 bothv_79 t_81) w fun u_82 w =>
          ldv prog (Instr.loadAt 63 bothv_79) w fun t_83 w =>
          Calls prog 62 #[t_83] w (Ret fun t_84 w =>
          pvv prog (binOp .leq 3 t_84 (.int .i64 253)) w fun t_85 w =>
          cd t_85 (
            pvv prog (Instr.fieldAt 67 (.pointer (some ⟨bb, 0, none⟩)) 2) w fun t_86 w =>
            ldv prog (Instr.loadAt 3 t_86) w fun t_87 w =>
            Calls prog 53 #[(.pointer (some ⟨C.cb, 0, none⟩)), t_87] w (Ret fun t_88 w =>
            dr w fun w =>
            pv prog (oNil (.pointer (some ⟨C.cb, 0, none⟩))) w fun t_89 w =>
            pvv prog (Instr.fieldAt 124 t_89 2) w fun t_90 w =>
            pvv prog (Instr.fieldAt 67 (.pointer (some ⟨ab, 0, none⟩)) 2) w fun t_91 w =>
            bindS (vN (Instr.loadAt 117 t_90)) fun m_93 => ldv prog (Instr.loadAt 117 t_90) w fun t_92 w =>
            bindS (vN (Instr.loadAt 3 t_91)) fun m_95 => ldv prog (Instr.loadAt 3 t_91) w fun t_94 w =>
            bindS (vN (Instr.loadAt 63 bothv_79)) fun m_97 => ldv prog (Instr.loadAt 63 bothv_79) w fun t_96 w =>
            Calls prog 50 #[t_96] w (Ret fun t_98 w => stay prog none m_95 t_94 w <| stay prog none m_93 t_92 w <| 
            efu prog (Instr.mapUpdate 117 t_92 t_94 t_98) w fun u_99 w =>
            pvv prog (Instr.fieldAt 63 (.pointer (some ⟨n0, 0, none⟩)) 1) w fun t_100 w =>
            ldv prog (Instr.loadAt 61 t_100) w fun t_101 w =>
            Calls prog 84 #[t_101] w (Ret fun t_102 w =>
            pvv prog (binOp .add 3 (.int .i64 i) (.int .i64 1)) w fun t_103 w =>
            pvv prog (binOp .add 3 (.int .i64 i) (.int .i64 2)) w fun t_104 w =>
            Calls prog 32 #[t_102, t_103, t_104] w (Ret fun t_105 w =>
            pvv prog (Instr.build 63 #[(0, (.bool false)), (1, t_105)]) w fun t_106 w =>
            efu prog (Instr.storeAt 63 (.pointer (some ⟨t1, 0, none⟩)) t_106) w fun u_107 w =>
            ∃ r_108, (do loadVar 63 (← asAddr (.pointer (some ⟨t1, 0, none⟩)))).run prog w = .ok r_108 w ∧ K r_108 w))))) <|
          ldv prog (Instr.loadAt 63 bothv_79) w fun t_111 w =>
          Calls prog 118 #[t_111] w (Ret fun t_112 w =>
          dr w fun w =>
          pvv prog (Instr.fieldAt 63 bothv_79 1) w fun t_113 w =>
          pvv prog (Instr.fieldAt 63 bothv_79 1) w fun t_114 w =>
          bindS (vN (Instr.loadAt 61 t_113)) fun m_116 => ldv prog (Instr.loadAt 61 t_113) w fun t_115 w =>
          pvv prog (Instr.sliceAt 61 t_115 none (some t_112) (some t_112)) w fun t_117 w =>
          pvv prog (Instr.fieldAt 63 (.pointer (some ⟨lb, 0, none⟩)) 1) w fun t_118 w =>
          bindS (vN (Instr.loadAt 61 t_114)) fun m_120 => ldv prog (Instr.loadAt 61 t_114) w fun t_119 w =>
          pvv prog (Instr.sliceAt 61 t_119 (some t_112) none none) w fun t_121 w =>
          efu prog (Instr.storeAt 61 t_118 t_117) w fun u_122 w => stay prog none m_120 t_119 w <| 
          pvv prog (Instr.fieldAt 63 (.pointer (some ⟨rb, 0, none⟩)) 1) w fun t_123 w =>
          efu prog (Instr.storeAt 61 t_123 t_121) w fun u_124 w =>
          dr w fun w =>
          pv prog (oNil (.pointer (some ⟨C.cb, 0, none⟩))) w fun t_125 w =>
          pvv prog (Instr.fieldAt 124 t_125 2) w fun t_126 w =>
          pvv prog (Instr.fieldAt 67 (.pointer (some ⟨ab, 0, none⟩)) 2) w fun t_127 w =>
          pv prog (oNil (.pointer (some ⟨C.cb, 0, none⟩))) w fun t_128 w =>
          pvv prog (Instr.fieldAt 124 t_128 2) w fun t_129 w =>
          pvv prog (Instr.fieldAt 67 (.pointer (some ⟨bb, 0, none⟩)) 2) w fun t_130 w =>
          bindS (vN (Instr.loadAt 117 t_126)) fun m_132 => ldv prog (Instr.loadAt 117 t_126) w fun t_131 w =>
          bindS (vN (Instr.loadAt 3 t_127)) fun m_134 => ldv prog (Instr.loadAt 3 t_127) w fun t_133 w =>
          bindS (vN (Instr.loadAt 117 t_129)) fun m_136 => ldv prog (Instr.loadAt 117 t_129) w fun t_135 w =>
          bindS (vN (Instr.loadAt 3 t_130)) fun m_138 => ldv prog (Instr.loadAt 3 t_130) w fun t_137 w =>
          bindS (vN (Instr.loadAt 63 (.pointer (some ⟨lb, 0, none⟩)))) fun m_140 => ldv prog (Instr.loadAt 63 (.pointer (some ⟨lb, 0, none⟩))) w fun t_139 w =>
          bindS (vN (Instr.loadAt 63 (.pointer (some ⟨rb, 0, none⟩)))) fun m_142 => ldv prog (Instr.loadAt 63 (.pointer (some ⟨rb, 0, none⟩))) w fun t_141 w =>
          Calls prog 50 #[t_139] w (Ret fun t_143 w => stay prog none m_142 t_141 w <| stay prog none m_138 t_137 w <| stay prog none m_136 t_135 w <| stay prog none m_134 t_133 w <| stay prog none m_132 t_131 w <| 
          Calls prog 50 #[t_141] w (Ret fun t_144 w => stay prog none m_140 t_139 w <| stay prog none m_138 t_137 w <| stay prog none m_136 t_135 w <| stay prog none m_134 t_133 w <| stay prog none m_132 t_131 w <| 
          efv prog (Instr.mapEntry 117 t_131 t_133) w fun t_145 w => stay prog none m_142 t_141 w <| stay prog none m_140 t_139 w <| stay prog none m_138 t_137 w <| 
          pvv prog (Instr.extract t_145 1) w fun t_146 w =>
          efu prog (Instr.entryStore 117 t_131 t_146 t_143) w fun u_147 w => stay prog none m_142 t_141 w <| stay prog none m_138 t_137 w <| 
          efv prog (Instr.mapEntry 117 t_135 t_137) w fun t_148 w => stay prog none m_142 t_141 w <| 
          pvv prog (Instr.extract t_148 1) w fun t_149 w =>
          efu prog (Instr.entryStore 117 t_135 t_149 t_144) w fun u_150 w =>
          pvv prog (Instr.fieldAt 63 (.pointer (some ⟨n0, 0, none⟩)) 1) w fun t_151 w =>
          ldv prog (Instr.loadAt 61 t_151) w fun t_152 w =>
          Calls prog 84 #[t_152] w (Ret fun t_153 w =>
          pvv prog (binOp .add 3 (.int .i64 i) (.int .i64 1)) w fun t_154 w =>
          pvv prog (Instr.fieldAt 63 (.pointer (some ⟨rb, 0, none⟩)) 1) w fun t_155 w =>
          ldv prog (Instr.loadAt 61 t_155) w fun t_156 w =>
          pvv prog (Instr.indexAt 61 t_156 (.int .i64 0)) w fun t_157 w =>
          pvv prog (Instr.fieldAt 67 t_157 0) w fun t_158 w =>
          ldv prog (Instr.loadAt 22 t_158) w fun t_159 w =>
          pvv prog (Instr.indexAt 61 t_153 t_154) w fun t_160 w =>
          pvv prog (Instr.fieldAt 67 t_160 0) w fun t_161 w =>
          efu prog (Instr.storeAt 22 t_161 t_159) w fun u_162 w =>
          pvv prog (Instr.build 63 #[(0, (.bool false)), (1, t_153)]) w fun t_163 w =>
          efu prog (Instr.storeAt 63 (.pointer (some ⟨t1, 0, none⟩)) t_163) w fun u_164 w =>
          ∃ r_165, (do loadVar 63 (← asAddr (.pointer (some ⟨t1, 0, none⟩)))).run prog w = .ok r_165 w ∧ K r_165 w)))))) fun k_175 =>
      pvv prog (Instr.fieldAt 63 (.pointer (some ⟨rb, 0, none⟩)) 0) w fun t_176 w =>
      ldv prog (Instr.loadAt 4 t_176) w fun t_177 w =>
      pvv prog (Op.unary .not t_177) w fun t_178 w =>
      cd t_178 (
        pvv prog (Instr.fieldAt 63 (.pointer (some ⟨rb, 0, none⟩)) 1) w fun t_179 w =>
        ldv prog (Instr.loadAt 61 t_179) w fun t_180 w =>
        Calls prog 84 #[t_180] w (Ret fun t_181 w =>
        pvv prog (Instr.fieldAt 63 (.pointer (some ⟨rb, 0, none⟩)) 1) w fun t_182 w =>
        efu prog (Instr.storeAt 61 t_182 t_181) w fun u_183 w =>
        pvv prog (Instr.fieldAt 63 (.pointer (some ⟨rb, 0, none⟩)) 1) w fun t_184 w =>
        ldv prog (Instr.loadAt 61 t_184) w fun t_185 w =>
        pvv prog (Instr.fieldAt 67 (.pointer (some ⟨bb, 0, none⟩)) 0) w fun t_186 w =>
        ldv prog (Instr.loadAt 22 t_186) w fun t_187 w =>
        pvv prog (Instr.indexAt 61 t_185 (.int .i64 0)) w fun t_188 w =>
        pvv prog (Instr.fieldAt 67 t_188 0) w fun t_189 w =>
        efu prog (Instr.storeAt 22 t_189 t_187) w fun u_190 w =>
        k_175 [] w)) <|
      k_175 [] w) := by
  obtain ⟨la, lc, rfl, _, _⟩ : ∃ a c, lvl = .slice a ls.length c ∧ _ := by
    obtain ⟨a, c, e, g⟩ := (hz _ (h.drop.drop.drop.drop.drop.drop.drop.drop.pers_get)).1.2
    exact ⟨a, c, e, g⟩
  obtain ⟨ra, rc, rfl, _, _⟩ : ∃ a c, lvr = .slice a rs.length c ∧ _ := by
    obtain ⟨a, c, e, g⟩ := (hz _ (h.drop.drop.drop.drop.drop.drop.drop.drop.pers_get)).2.2
    exact ⟨a, c, e, g⟩
  have h := h.perm (show _ = pts lb (.cells [Value.bool false, .slice none 0 0].toArray 63 (0, 0)) * (pts rb (.cells [Value.bool false, .slice none 0 0].toArray 63 (0, 0)) * (pts bb (.cells (ecells xs[i + 1]).toArray 67 (0, 0)) * (chg C c s * (osl 67 3 lv xs.length (elv xs) * (bxN n0 false lv * (pts t1 (.cells [Value.bool false, .slice none 0 0].toArray 63 (0, 0)) * (pts ab (.cells (ecells xs[i]).toArray 67 (0, 0)) * (pers φ * R)))))))) by ac_rfl)
  refine store_all (b := lb) h (vs := [Value.bool true, .slice la ls.length lc]) rfl rfl (by simp [Value.oneCell']) fun w h => ?_
  simp only [↓opsA, opsB, if_true, if_false, ↓reduceIte]
  refine st_in (b := bb) (v := .int .i64 xs[i + 1].e.pg) h rfl ?_
  refine store_all (b := rb) h (vs := [Value.bool true, .slice ra rs.length rc]) rfl rfl (by simp [Value.oneCell']) fun w h => ?_
  unfold jn
  refine ld_in (b := rb) (v := .bool true) h rfl ?_
  simp only [↓opsA, opsB, if_true, if_false, ↓reduceIte]
  refine dr_sl h fun w h _ => ?_
  refine ld_in (b := lb) (v := .bool true) h rfl ?_
  refine ld_in (b := lb) (v := .slice la ls.length lc) h rfl ?_
  refine ld_in (b := rb) (v := .slice ra rs.length rc) h rfl ?_
  generalize hY : (pts bb (.cells (ecells xs[i + 1]).toArray 67 (0, 0)) * (chg C c s * (osl 67 3 lv xs.length (elv xs) * (bxN n0 false lv * (pts t1 (.cells [Value.bool false, .slice none 0 0].toArray 63 (0, 0)) * (pts ab (.cells (ecells xs[i]).toArray 67 (0, 0)) * (pers φ * R))))))) = Y at h
  have h : sat E w (pts lb (.cells [Value.bool true, .slice la ls.length lc].toArray 63 (0, 0)) * (pts rb (.cells [Value.bool true, .slice ra rs.length rc].toArray 63 (0, 0)) * Y)) := h.perm (by ac_rfl)
  have hrl : Rds (pts lb (.cells [Value.bool true, .slice la ls.length lc].toArray 63 (0, 0)) * (pts rb (.cells [Value.bool true, .slice ra rs.length rc].toArray 63 (0, 0)) * Y)) (.slice la ls.length lc) ls.length (elv ls) := fun E w hs => by
    rw [← hY] at hs
    exact (hz _ (hs.drop.drop.drop.drop.drop.drop.drop.drop.pers_get)).1.2
  have hrr : Rds (pts lb (.cells [Value.bool true, .slice la ls.length lc].toArray 63 (0, 0)) * (pts rb (.cells [Value.bool true, .slice ra rs.length rc].toArray 63 (0, 0)) * Y)) (.slice ra rs.length rc) rs.length (elv rs) := fun E w hs => by
    rw [← hY] at hs
    exact (hz _ (hs.drop.drop.drop.drop.drop.drop.drop.drop.pers_get)).2.2
  have e1 : ∀ {w : World} {σ : List (Option Value)} {o : Option Nat} {Z : HP}, sat E w (slots (φB (.slice la ls.length lc) (.slice ra rs.length rc) (ls.length + rs.length) (elv ls ++ elv rs)) σ (ob [Value.bool false, .slice none 0 0] 63 o * Z)) → sat E w Z := fun h => (slots.old h).drop
  refine ⟨boxJ E (φB (.slice la ls.length lc) (.slice ra rs.length rc) (ls.length + rs.length) (elv ls ++ elv rs)) (pts lb (.cells [Value.bool true, .slice la ls.length lc].toArray 63 (0, 0)) * (pts rb (.cells [Value.bool true, .slice ra rs.length rc].toArray 63 (0, 0)) * Y)), ⟨none, rfl, by simp, slots_start (by show sat E w (emp * _); rw [emp_star]; exact h)⟩, ?_, ?_, ?_, ?_, ?_⟩
  · rintro σ w ⟨o, ho, hsl, h⟩ hu
    refine buildSlice_sl (e := 61) (cs := [Value.slice la ls.length lc, .slice ra rs.length rc].toArray) h (fun w => by kernel_rfl) fun b w h => ?_
    refine st_in (b := lb) (e1 h.drop) rfl ?_
    refine ⟨o, by rw [List.getElem?_set_ne (by omega)]; exact ho, by simpa using hsl, ?_⟩
    exact slots.keepb (xs := [Value.slice la ls.length lc, .slice ra rs.length rc]) h (by omega) rfl fun I hI => ⟨b, rfl, hI⟩
  · rintro σ w ⟨o, ho, hsl, h⟩ hu
    have e0 := ptrO_none ho hu
    subst e0
    refine alloc_sl h fun l0 w h => ?_
    refine st_in (b := rb) (e1 h.drop) rfl ?_
    refine st_in (b := lb) (e1 h.drop) rfl ?_
    refine st_in (b := lb) (e1 h.drop) rfl ?_
    refine ⟨some l0, by rw [List.getElem?_set_self hsl]; rfl, by simpa using hsl, ?_⟩
    refine slots.put ?_ trivial
    unfold slots at h ⊢
    rw [show ob [Value.bool false, .slice none 0 0] 63 none = emp from rfl, emp_star] at h
    exact h.perm (star_left_comm _ _ _)
  · rintro σ w ⟨o, ho, hsl, h⟩ hu t0 h0
    obtain ⟨b, rfl, hr0⟩ := slots.get h h0
    have hs0 : Rds (slots (φB (.slice la ls.length lc) (.slice ra rs.length rc) (ls.length + rs.length) (elv ls ++ elv rs)) σ (ob [Value.bool false, .slice none 0 0] 63 o * (pts lb (.cells [Value.bool true, .slice la ls.length lc].toArray 63 (0, 0)) * (pts rb (.cells [Value.bool true, .slice ra rs.length rc].toArray 63 (0, 0)) * Y)))) (.slice (some ⟨b, 0, none⟩) 2 2) 2 [.slice la ls.length lc, .slice ra rs.length rc] := slots.rds h0 fun I hI => by
      obtain ⟨b', e, g⟩ := hI
      exact g
    refine ConcatE_spec h hs0 (fun E w hs => hrl E w ((slots.old hs).drop)) (fun E w hs => hrr E w ((slots.old hs).drop)) (elv_len ls) (elv_len rs) (by omega) (elv_one ls) (elv_one rs) fun v w h => ?_
    refine st_in (b := rb) (e1 h.drop) rfl ?_
    refine st_in (b := lb) (e1 h.drop) rfl ?_
    refine st_in (b := lb) (e1 h.drop) rfl ?_
    refine ⟨o, by rw [List.getElem?_set_ne (by omega)]; exact ho, by simpa using hsl, ?_⟩
    exact slots.keep h fun I hI => hI
  · rintro σ w ⟨o, ho, hsl, h⟩ hu t2 h2
    obtain ⟨ta, tc, rfl, _, _⟩ : RdS (hp w) t2 _ _ := slots.get h h2
    refine pvv_of (v := nv true (.slice ta (ls.length + rs.length) tc)) (fun w => by kernel_rfl) ?_
    refine ⟨o, by rw [List.getElem?_set_ne (by omega)]; exact ho, by simpa using hsl, ?_⟩
    refine slots.add (h.pers_dup.mono fun I h' hp' => ?_)
    rw [pers_star_p] at hp' ⊢
    exact ⟨⟨_, rfl, hp'.1 2 _ h2⟩, hp'.2⟩
  · rintro σ w ⟨o, ho, hsl, h⟩ t0 h0 tb hb t2 h2 t3 h3
    obtain ⟨ob', rfl⟩ : ∃ l0, o = some l0 := by
      rw [ho] at hb
      cases o with
      | none => simp [ptrO] at hb
      | some l => exact ⟨l, rfl⟩
    have hb2 : tb = .pointer (some ⟨ob', 0, none⟩) := by rw [ho] at hb; simp [ptrO] at hb; exact hb.symm
    subst hb2
    obtain ⟨v2, rfl, hv2⟩ := slots.get h h3
    have h := h.pers_mono (ψ := immS v2 (ls.length + rs.length) (elv ls ++ elv rs)) fun I hI => by
      obtain ⟨v3, e3, g⟩ := hI 3 _ h3
      unfold nv at e3
      simp at e3
      rw [e3]; exact g
    obtain ⟨va, vc, rfl, _, _⟩ := hv2
    have hlen : (ls ++ rs).length = ls.length + rs.length := List.length_append
    rw [← hlen, ← elv_app] at h
    have hfz : Few (ls ++ rs) := ⟨by omega, fun z hm => by
      rcases List.mem_append.1 hm with hm | hm
      · exact hfl.2 z hm
      · exact hfr.2 z hm⟩
    have hez : esv (ls ++ rs) = esv ls ++ esv rs := by unfold esv; rw [List.map_append]
    have h : sat E w (pers (immS (.slice va (ls ++ rs).length vc) (ls ++ rs).length (elv (ls ++ rs))) * (pts ob' (.cells [Value.bool false, .slice none 0 0].toArray 63 (0, 0)) * (pts lb (.cells [Value.bool true, .slice la ls.length lc].toArray 63 (0, 0)) * (pts rb (.cells [Value.bool true, .slice ra rs.length rc].toArray 63 (0, 0)) * Y)))) := h
    rw [← hlen]
    have h := h.perm (star_left_comm _ _ _)
    refine store_all (b := ob') h (vs := [Value.bool true, .slice va (ls ++ rs).length vc]) rfl rfl (by simp [Value.oneCell']) fun w h => ?_
    refine ld_agg (b := ob') h rfl ?_
    refine bytes_spec h (leaf := true) ((Rds.pers.left).right) hfz fun w h => ?_
    rw [hez]
    rw [← hY] at h
    have h := h.perm (show _ = (pers φ * pers (immS (.slice va (ls ++ rs).length vc) (ls ++ rs).length (elv (ls ++ rs)))) * (chg C c s * (bxN lb true (.slice la ls.length lc) * (bxN rb true (.slice ra rs.length rc) * (osl 67 3 lv xs.length (elv xs) * (bxN n0 false lv * (pts t1 (.cells [Value.bool false, .slice none 0 0].toArray 63 (0, 0)) * (pts ab (.cells (ecells xs[i]).toArray 67 (0, 0)) * (pts bb (.cells (ecells xs[i + 1]).toArray 67 (0, 0)) * (bxN ob' true (.slice va (ls ++ rs).length vc) * R))))))))) by unfold bxN; ac_rfl)
    rw [pers_and] at h
    have hx' : ∀ I, (φ.and (immS (.slice va (ls ++ rs).length vc) (ls ++ rs).length (elv (ls ++ rs)))).p I → ∀ x ∈ xs, evJ I x := fun I hI => hx I hI.1
    have hz' : ∀ I, (φ.and (immS (.slice va (ls ++ rs).length vc) (ls ++ rs).length (elv (ls ++ rs)))).p I → (∀ z ∈ ls ++ rs, evJ I z) ∧ RdS I (.slice va (ls ++ rs).length vc) (ls ++ rs).length (elv (ls ++ rs)) := fun I hI => ⟨fun z hm => by
      rcases List.mem_append.1 hm with hm | hm
      · exact (hz I hI.1).1.1 z hm
      · exact (hz I hI.1).2.1 z hm, hI.2⟩
    have hk' : ∀ {ys : List Ev} {lv' : Value} {w' : World}, n'.leaf = false → esv ys = n'.l → Few ys → sat E w' (osl 67 3 lv' ys.length (elv ys) * (pers (evP ys) * (chg C c s' * (pers (φ.and (immS (.slice va (ls ++ rs).length vc) (ls ++ rs).length (elv (ls ++ rs)))) * R)))) → K (nv false lv') w' := fun {ys lv' w'} a1 a2 a3 h => by
      refine k lv' ys w' a1 a2 a3 ?_
      have h := (h.perm (show _ = pers (φ.and (immS (.slice va (ls ++ rs).length vc) (ls ++ rs).length (elv (ls ++ rs)))) * (osl 67 3 lv' ys.length (elv ys) * (pers (evP ys) * (chg C c s' * R))) by ac_rfl)).pers_mono (ψ := φ) fun I hI => hI.1
      exact h.perm (by ac_rfl)
    clear h0 h2 h3 e1 hrl hrr
    by_cases hb : (⟨true, esv ls ++ esv rs⟩ : Nd).bytes ≤ 253
    · rw [if_pos hb] at hres
      obtain ⟨s1, hg, hres⟩ := Option.bind_eq_some_iff.1 hres
      obtain ⟨s2, hp, hres⟩ := Option.bind_eq_some_iff.1 hres
      cases hres
      rw [← hez] at hp
      have h := h.perm (show _ = (bxN lb true (.slice la ls.length lc) * bxN rb true (.slice ra rs.length rc)) * (chg C c s * (osl 67 3 lv xs.length (elv xs) * (bxN n0 false lv * (pts t1 (.cells [Value.bool false, .slice none 0 0].toArray 63 (0, 0)) * (pts ab (.cells (ecells xs[i]).toArray 67 (0, 0)) * (pts bb (.cells (ecells xs[i + 1]).toArray 67 (0, 0)) * (bxN ob' true (.slice va (ls ++ rs).length vc) * (pers (φ.and (immS (.slice va (ls ++ rs).length vc) (ls ++ rs).length (elv (ls ++ rs)))) * R)))))))) by ac_rfl)
      have hme := merge_end (K := K) hm hi hf hg hp hx' hz' h.drop fun lv' ys w' a1 a2 h => hk' rfl a1 a2 h
      have hb' : ((⟨true, esv ls ++ esv rs⟩ : Nd).bytes : Int) ≤ 253 := by omega
      simp only [↓opsA, opsB, if_true, if_false, ↓reduceIte] at hme
      simp only [hb', ↓opsA, opsB, if_true, if_false, ↓reduceIte]
      exact hme
    · rw [if_neg hb] at hres
      obtain ⟨e, he, hres⟩ := Option.bind_eq_some_iff.1 hres
      obtain ⟨s1, hp1, hres⟩ := Option.bind_eq_some_iff.1 hres
      obtain ⟨s2, hp2, hres⟩ := Option.bind_eq_some_iff.1 hres
      cases hres
      rw [← hez] at hp1 hp2 he
      have hat : halfP ⟨true, esv (ls ++ rs)⟩ < (ls ++ rs).length := by
        have := (List.getElem?_eq_some_iff.1 he).1
        rwa [esv_len] at this
      have hee : e = (ls ++ rs)[halfP ⟨true, esv (ls ++ rs)⟩].e := by
        rw [← esv_at (ls ++ rs) hat]; exact (List.getElem?_eq_some_iff.1 he).2.symm
      have h := h.perm (show _ = chg C c s * (bxN lb true (.slice la ls.length lc) * (bxN rb true (.slice ra rs.length rc) * (osl 67 3 lv xs.length (elv xs) * (bxN n0 false lv * (pts t1 (.cells [Value.bool false, .slice none 0 0].toArray 63 (0, 0)) * (pts ab (.cells (ecells xs[i]).toArray 67 (0, 0)) * (pts bb (.cells (ecells xs[i + 1]).toArray 67 (0, 0)) * (bxN ob' true (.slice va (ls ++ rs).length vc) * (pers (φ.and (immS (.slice va (ls ++ rs).length vc) (ls ++ rs).length (elv (ls ++ rs)))) * R))))))))) by ac_rfl)
      have hme := split_end (K := K) hm hi hf hfz rfl hat hp1 hp2 hx' hz' h fun lv' ys w' a1 a2 h => hk' rfl (by rw [a1, hee]) a2 h
      have hb' : ¬ ((⟨true, esv ls ++ esv rs⟩ : Nd).bytes : Int) ≤ 253 := by omega
      simp only [↓opsA, opsB, if_true, if_false, ↓reduceIte] at hme
      simp only [hb', ↓opsA, opsB, if_true, if_false, ↓reduceIte]
      exact hme
end Go.Proofs.YtfaeklinhchidaaGreat

/-
  mend, where all below are leaves.
-/
set_option linter.all false
set_option maxRecDepth 100000
namespace Go.Proofs.YtfaeklinhchidaaGreat
open Go Hold
variable {E : World0} {w : World} {H R X : HP} {K : Value → World → Prop}
def φR (la ra : List En) : Nat → Value → PP := fun j v => match j with
  | 0 => ⟨fun I => ∃ lv xs, v = nv true lv ∧ esv xs = la ∧ (∀ x ∈ xs, evJ I x) ∧ RdS I lv xs.length (elv xs), fun hI ⟨lv, xs, e1, e2, h1, h2⟩ => ⟨lv, xs, e1, e2, fun x hx => ⟨(h1 x hx).1.mono hI, (h1 x hx).2.mono hI⟩, h2.mono hI⟩⟩
  | 3 => ⟨fun I => ∃ lv xs, v = nv true lv ∧ esv xs = ra ∧ (∀ x ∈ xs, evJ I x) ∧ RdS I lv xs.length (elv xs), fun hI ⟨lv, xs, e1, e2, h1, h2⟩ => ⟨lv, xs, e1, e2, fun x hx => ⟨(h1 x hx).1.mono hI, (h1 x hx).2.mono hI⟩, h2.mono hI⟩⟩
  | _ => ppOf True
def left_ (σ : List (Option Value)) (k : Nat) : Nat := match σ[k]? with
  | some none => 1
  | _ => 0
theorem left_set {σ : List (Option Value)} {j k : Nat} {v : Option Value} (h : j ≠ k) : left_ (σ.set j v) k = left_ σ k := by
  unfold left_; rw [List.getElem?_set_ne h]
theorem left_done {σ : List (Option Value)} {j : Nat} {v : Value} (h : j < σ.length) : left_ (σ.set j (some v)) j = 0 := by
  unfold left_; rw [List.getElem?_set_self h]
theorem left_some {σ : List (Option Value)} {j : Nat} {v : Value} (h : σ[j]? = some (some v)) : left_ σ j = 0 := by
  unfold left_; rw [h]
theorem left_none {σ : List (Option Value)} {j : Nat} (h : σ[j]? = some none) : left_ σ j = 1 := by
  unfold left_; rw [h]
theorem pers_open {α : Type} {P : α → PP} {ψ : PP} (hψ : ∀ I, ψ.p I → ∃ x, (P x).p I) (h : sat E w (pers ψ * R)) : ∃ x, sat E w (pers (P x) * R) := by
  obtain ⟨e, I, h', a, b, c⟩ := h
  rw [pers_star_p] at c
  obtain ⟨x, hx⟩ := hψ I c.1
  exact ⟨x, e, I, h', a, b, (pers_star_p _ _ _ _).2 ⟨hx, c.2⟩⟩
/-- What is known of two leaves that were read. -/
def twoP (t0 t3 : Value) (la ra : List En) (q : (Value × List Ev) × Value × List Ev) : PP := ⟨fun I => ((t0 = nv true q.1.1 ∧ t3 = nv true q.2.1) ∧ esv q.1.2 = la ∧ esv q.2.2 = ra) ∧ ((∀ z ∈ q.1.2, evJ I z) ∧ RdS I q.1.1 q.1.2.length (elv q.1.2)) ∧ (∀ z ∈ q.2.2, evJ I z) ∧ RdS I q.2.1 q.2.2.length (elv q.2.2),
  fun hI ⟨e, ⟨h1, h2⟩, h3, h4⟩ => ⟨e, ⟨fun x hx => ⟨(h1 x hx).1.mono hI, (h1 x hx).2.mono hI⟩, h2.mono hI⟩, fun x hx => ⟨(h3 x hx).1.mono hI, (h3 x hx).2.mono hI⟩, h4.mono hI⟩⟩
def readJ (E : World0) (φ : Nat → Value → PP) (C : Cx) (c : Nat) (s : St) (F : HP) (σ : List (Option Value)) (w : World) : Prop := ∃ o1 o2, σ[1]? = some (ptrO o1) ∧ σ[2]? = some (ptrO o2) ∧ σ.length = 4 ∧ sat E w (slots φ σ (chg C (c + (left_ σ 0 + left_ σ 3)) s * (ob [Value.bool false, .slice none 0 0] 63 o1 * (ob [Value.bool false, .slice none 0 0] 63 o2 * F))))
/-- A leaf is read into its slot. -/
theorem read_slot {C : Cx} {c k n : Nat} {s : St} {p : Nat} {nd : Nd} {σ : List (Option Value)} {F : HP} {la ra : List En} (hk : (k = 0 ∧ nd.l = la) ∨ (k = 3 ∧ nd.l = ra)) (hr : readS C.N s p = some nd) (hlf : nd.leaf = true) (hn : n = c + 1) (h : sat E w (slots (φR la ra) σ (chg C n s * F)))
    (kk : ∀ v w', sat E w' (slots (φR la ra) (σ.set k (some v)) (chg C c s * F)) → K v w') : Calls prog 52 #[.pointer (some ⟨C.cb, 0, none⟩), .int .i64 p] w (Ret K) := by
  subst hn
  unfold slots at h
  refine read_spec hr (h.perm (star_left_comm _ _ _)) fun lv xs w hxs ok h => ?_
  rw [hlf]
  refine kk _ w (slots.add ?_)
  have h := osl_freeze h
  have h : sat E w ((pers (immS lv xs.length (elv xs)) * pers (evP xs)) * (chg C c s * (pers (slotsP (φR la ra) σ) * F))) := h.perm (by ac_rfl)
  rw [pers_and] at h
  have h := h.pers_mono (ψ := φR la ra k (nv true lv)) fun I hI => by
    rcases hk with ⟨rfl, e⟩ | ⟨rfl, e⟩
    · exact ⟨lv, xs, rfl, by rw [hxs, e], hI.2, hI.1⟩
    · exact ⟨lv, xs, rfl, by rw [hxs, e], hI.2, hI.1⟩
  unfold slots
  exact h.perm (by ac_rfl)
theorem two_part {C : Cx} {c m : Nat} {s s' : St} {n0 t1 ab bb i : Nat} {xs : List Ev} {left right : Nd} {lv : Value} {φ : PP} {n' : Nd} (hm : C.mo = some m) (hi : i + 1 < xs.length) (hf : Few xs) (hx : ∀ I, φ.p I → ∀ x ∈ xs, evJ I x)
    (hl : readS C.N s xs[i].e.pg = some left) (hr : readS C.N s xs[i + 1].e.pg = some right) (hlr : left.leaf = true ∧ right.leaf = true)
    (hres : (if (⟨true, left.l ++ right.l⟩ : Nd).bytes ≤ 253 then
          (giveS C.N s xs[i + 1].e.pg).bind fun s1 => (putS C.N s1 xs[i].e.pg (.node ⟨true, left.l ++ right.l⟩)).bind fun s2 => some (⟨false, (esv xs).eraseIdx (i + 1)⟩, s2)
        else ((left.l ++ right.l)[halfP ⟨true, left.l ++ right.l⟩]?).bind fun e =>
          (putS C.N s xs[i].e.pg (.node ⟨true, (left.l ++ right.l).take (halfP ⟨true, left.l ++ right.l⟩)⟩)).bind fun s1 =>
          (putS C.N s1 xs[i + 1].e.pg (.node ⟨true, (left.l ++ right.l).drop (halfP ⟨true, left.l ++ right.l⟩)⟩)).bind fun s2 =>
          some (⟨false, (esv xs).set (i + 1) { xs[i + 1].e with k := e.k }⟩, s2)) = some (n', s'))
    (h : sat E w (chg C (c + 3) s * (pts ab (.cells (ecells xs[i]).toArray 67 (0, 0)) * (pts bb (.cells (ecells xs[i + 1]).toArray 67 (0, 0)) * (pts t1 (.cells [Value.bool false, .slice none 0 0].toArray 63 (0, 0)) * (bxN n0 false lv * (osl 67 3 lv xs.length (elv xs) * (pers φ * R))))))))
    (k : ∀ lv' ys w', n'.leaf = false → esv ys = n'.l → Few ys → sat E w' (osl 67 3 lv' ys.length (elv ys) * (pers (evP ys) * (chg C c s' * (pers φ * R)))) → K (nv false lv') w') : (
    par 4 w fun J_51 =>
      (∀ (σ : List (Option Value)) (w : World), J_51 σ w → un σ 0 (Calls prog 52 #[(.pointer (some ⟨C.cb, 0, none⟩)), (.int .i64 xs[i].e.pg)] w (Ret fun v_52 w => stay prog none (vN (Instr.loadAt 3 (.pointer (some ⟨bb, 2, none⟩)))) (.int .i64 xs[i + 1].e.pg) w <| J_51 (σ.set 0 (some v_52)) w))) ∧
      (∀ (σ : List (Option Value)) (w : World), J_51 σ w → un σ 1 (efv prog (Instr.alloc 63 true (.tuple #[])) w fun v_53 w => stay prog none (vN (Instr.loadAt 3 (.pointer (some ⟨bb, 2, none⟩)))) (.int .i64 xs[i + 1].e.pg) w <| stay prog none (vN (Instr.loadAt 3 (.pointer (some ⟨ab, 2, none⟩)))) (.int .i64 xs[i].e.pg) w <| J_51 (σ.set 1 (some v_53)) w)) ∧
      (∀ (σ : List (Option Value)) (w : World), J_51 σ w → un σ 2 (efv prog (Instr.alloc 63 true (.tuple #[])) w fun v_54 w => stay prog none (vN (Instr.loadAt 3 (.pointer (some ⟨bb, 2, none⟩)))) (.int .i64 xs[i + 1].e.pg) w <| stay prog none (vN (Instr.loadAt 3 (.pointer (some ⟨ab, 2, none⟩)))) (.int .i64 xs[i].e.pg) w <| J_51 (σ.set 2 (some v_54)) w)) ∧
      (∀ (σ : List (Option Value)) (w : World), J_51 σ w → un σ 3 (Calls prog 52 #[(.pointer (some ⟨C.cb, 0, none⟩)), (.int .i64 xs[i + 1].e.pg)] w (Ret fun v_55 w => stay prog none (vN (Instr.loadAt 3 (.pointer (some ⟨ab, 2, none⟩)))) (.int .i64 xs[i].e.pg) w <| J_51 (σ.set 3 (some v_55)) w))) ∧
      ∀ (σ : List (Option Value)) (w : World), J_51 σ w → is σ 0 fun t_56 => is σ 1 fun leftv_57 => is σ 2 fun rightv_58 => is σ 3 fun t_59 => 
      efu prog (Instr.storeAt 63 leftv_57 t_56) w fun u_60 w => stay prog none (vN (Instr.loadAt 3 (.pointer (some ⟨bb, 2, none⟩)))) (.int .i64 xs[i + 1].e.pg) w <| 
      efu prog (Instr.storeAt 63 rightv_58 t_59) w fun u_61 w =>
      jn (fun σ w => fin σ <|
        dr w fun w =>
        pvv prog (Instr.fieldAt 63 leftv_57 0) w fun t_62 w =>
        pvv prog (Instr.fieldAt 63 leftv_57 1) w fun t_63 w =>
        pvv prog (Instr.fieldAt 63 rightv_58 1) w fun t_64 w =>
        bindS (vN (Instr.loadAt 4 t_62)) fun m_66 => ldv prog (Instr.loadAt 4 t_62) w fun t_65 w =>
        bindS (vN (Instr.loadAt 61 t_63)) fun m_68 => ldv prog (Instr.loadAt 61 t_63) w fun t_67 w =>
        bindS (vN (Instr.loadAt 61 t_64)) fun m_70 => ldv prog (Instr.loadAt 61 t_64) w fun t_69 w =>
        par 4 w fun J_71 =>
          (∀ (σ : List (Option Value)) (w : World), J_71 σ w → un σ 0 (efv prog (Instr.buildSlice 204 2 #[(0, t_67), (1, t_69)]) w fun v_72 w => stay prog none m_66 t_65 w <| J_71 (σ.set 0 (some v_72)) w)) ∧
          (∀ (σ : List (Option Value)) (w : World), J_71 σ w → un σ 1 (efv prog (Instr.alloc 63 true (.tuple #[])) w fun v_73 w => stay prog none m_70 t_69 w <| stay prog none m_68 t_67 w <| stay prog none m_66 t_65 w <| J_71 (σ.set 1 (some v_73)) w)) ∧
          (∀ (σ : List (Option Value)) (w : World), J_71 σ w → un σ 2 (is σ 0 fun t_74 => Calls prog 120 #[t_74] w (Ret fun v_75 w => stay prog none m_70 t_69 w <| stay prog none m_68 t_67 w <| stay prog none m_66 t_65 w <| J_71 (σ.set 2 (some v_75)) w))) ∧
          (∀ (σ : List (Option Value)) (w : World), J_71 σ w → un σ 3 (is σ 2 fun t_76 => pvv prog (Instr.build 63 #[(0, t_65), (1, t_76)]) w fun v_77 w => J_71 (σ.set 3 (some v_77)) w)) ∧
          ∀ (σ : List (Option Value)) (w : World), J_71 σ w → is σ 0 fun t_78 => is σ 1 fun bothv_79 => is σ 2 fun t_80 => is σ 3 fun t_81 => 
          efu prog (Instr.storeAt 63 bothv_79 t_81) w fun u_82 w =>
          ldv prog (Instr.loadAt 63 bothv_79) w fun t_83 w =>
          Calls prog 62 #[t_83] w (Ret fun t_84 w =>
          pvv prog (binOp .leq 3 t_84 (.int .i64 253)) w fun t_85 w =>
          cd t_85 (
            pvv prog (Instr.fieldAt 67 (.pointer (some ⟨bb, 0, none⟩)) 2) w fun t_86 w =>
            ldv prog (Instr.loadAt 3 t_86) w fun t_87 w =>
            Calls prog 53 #[(.pointer (some ⟨C.cb, 0, none⟩)), t_87] w (Ret fun t_88 w =>
            dr w fun w =>
            pv prog (oNil (.pointer (some ⟨C.cb, 0, none⟩))) w fun t_89 w =>
            pvv prog (Instr.fieldAt 124 t_89 2) w fun t_90 w =>
            pvv prog (Instr.fieldAt 67 (.pointer (some ⟨ab, 0, none⟩)) 2) w fun t_91 w =>
            bindS (vN (Instr.loadAt 117 t_90)) fun m_93 => ldv prog (Instr.loadAt 117 t_90) w fun t_92 w =>
            bindS (vN (Instr.loadAt 3 t_91)) fun m_95 => ldv prog (Instr.loadAt 3 t_91) w fun t_94 w =>
            bindS (vN (Instr.loadAt 63 bothv_79)) fun m_97 => ldv prog (Instr.loadAt 63 bothv_79) w fun t_96 w =>
            Calls prog 50 #[t_96] w (Ret fun t_98 w => stay prog none m_95 t_94 w <| stay prog none m_93 t_92 w <| 
            efu prog (Instr.mapUpdate 117 t_92 t_94 t_98) w fun u_99 w =>
            pvv prog (Instr.fieldAt 63 (.pointer (some ⟨n0, 0, none⟩)) 1) w fun t_100 w =>
            ldv prog (Instr.loadAt 61 t_100) w fun t_101 w =>
            Calls prog 84 #[t_101] w (Ret fun t_102 w =>
            pvv prog (binOp .add 3 (.int .i64 i) (.int .i64 1)) w fun t_103 w =>
            pvv prog (binOp .add 3 (.int .i64 i) (.int .i64 2)) w fun t_104 w =>
            Calls prog 32 #[t_102, t_103, t_104] w (Ret fun t_105 w =>
            pvv prog (Instr.build 63 #[(0, (.bool false)), (1, t_105)]) w fun t_106 w =>
            efu prog (Instr.storeAt 63 (.pointer (some ⟨t1, 0, none⟩)) t_106) w fun u_107 w =>
            ∃ r_108, (do loadVar 63 (← asAddr (.pointer (some ⟨t1, 0, none⟩)))).run prog w = .ok r_108 w ∧ K r_108 w))))) <|
          ldv prog (Instr.loadAt 63 bothv_79) w fun t_111 w =>
          Calls prog 118 #[t_111] w (Ret fun t_112 w =>
          dr w fun w =>
          pvv prog (Instr.fieldAt 63 bothv_79 1) w fun t_113 w =>
          pvv prog (Instr.fieldAt 63 bothv_79 1) w fun t_114 w =>
          bindS (vN (Instr.loadAt 61 t_113)) fun m_116 => ldv prog (Instr.loadAt 61 t_113) w fun t_115 w =>
          pvv prog (Instr.sliceAt 61 t_115 none (some t_112) (some t_112)) w fun t_117 w =>
          pvv prog (Instr.fieldAt 63 leftv_57 1) w fun t_118 w =>
          bindS (vN (Instr.loadAt 61 t_114)) fun m_120 => ldv prog (Instr.loadAt 61 t_114) w fun t_119 w =>
          pvv prog (Instr.sliceAt 61 t_119 (some t_112) none none) w fun t_121 w =>
          efu prog (Instr.storeAt 61 t_118 t_117) w fun u_122 w => stay prog none m_120 t_119 w <| 
          pvv prog (Instr.fieldAt 63 rightv_58 1) w fun t_123 w =>
          efu prog (Instr.storeAt 61 t_123 t_121) w fun u_124 w =>
          dr w fun w =>
          pv prog (oNil (.pointer (some ⟨C.cb, 0, none⟩))) w fun t_125 w =>
          pvv prog (Instr.fieldAt 124 t_125 2) w fun t_126 w =>
          pvv prog (Instr.fieldAt 67 (.pointer (some ⟨ab, 0, none⟩)) 2) w fun t_127 w =>
          pv prog (oNil (.pointer (some ⟨C.cb, 0, none⟩))) w fun t_128 w =>
          pvv prog (Instr.fieldAt 124 t_128 2) w fun t_129 w =>
          pvv prog (Instr.fieldAt 67 (.pointer (some ⟨bb, 0, none⟩)) 2) w fun t_130 w =>
          bindS (vN (Instr.loadAt 117 t_126)) fun m_132 => ldv prog (Instr.loadAt 117 t_126) w fun t_131 w =>
          bindS (vN (Instr.loadAt 3 t_127)) fun m_134 => ldv prog (Instr.loadAt 3 t_127) w fun t_133 w =>
          bindS (vN (Instr.loadAt 117 t_129)) fun m_136 => ldv prog (Instr.loadAt 117 t_129) w fun t_135 w =>
          bindS (vN (Instr.loadAt 3 t_130)) fun m_138 => ldv prog (Instr.loadAt 3 t_130) w fun t_137 w =>
          bindS (vN (Instr.loadAt 63 leftv_57)) fun m_140 => ldv prog (Instr.loadAt 63 leftv_57) w fun t_139 w =>
          bindS (vN (Instr.loadAt 63 rightv_58)) fun m_142 => ldv prog (Instr.loadAt 63 rightv_58) w fun t_141 w =>
          Calls prog 50 #[t_139] w (Ret fun t_143 w => stay prog none m_142 t_141 w <| stay prog none m_138 t_137 w <| stay prog none m_136 t_135 w <| stay prog none m_134 t_133 w <| stay prog none m_132 t_131 w <| 
          Calls prog 50 #[t_141] w (Ret fun t_144 w => stay prog none m_140 t_139 w <| stay prog none m_138 t_137 w <| stay prog none m_136 t_135 w <| stay prog none m_134 t_133 w <| stay prog none m_132 t_131 w <| 
          efv prog (Instr.mapEntry 117 t_131 t_133) w fun t_145 w => stay prog none m_142 t_141 w <| stay prog none m_140 t_139 w <| stay prog none m_138 t_137 w <| 
          pvv prog (Instr.extract t_145 1) w fun t_146 w =>
          efu prog (Instr.entryStore 117 t_131 t_146 t_143) w fun u_147 w => stay prog none m_142 t_141 w <| stay prog none m_138 t_137 w <| 
          efv prog (Instr.mapEntry 117 t_135 t_137) w fun t_148 w => stay prog none m_142 t_141 w <| 
          pvv prog (Instr.extract t_148 1) w fun t_149 w =>
          efu prog (Instr.entryStore 117 t_135 t_149 t_144) w fun u_150 w =>
          pvv prog (Instr.fieldAt 63 (.pointer (some ⟨n0, 0, none⟩)) 1) w fun t_151 w =>
          ldv prog (Instr.loadAt 61 t_151) w fun t_152 w =>
          Calls prog 84 #[t_152] w (Ret fun t_153 w =>
          pvv prog (binOp .add 3 (.int .i64 i) (.int .i64 1)) w fun t_154 w =>
          pvv prog (Instr.fieldAt 63 rightv_58 1) w fun t_155 w =>
          ldv prog (Instr.loadAt 61 t_155) w fun t_156 w =>
          pvv prog (Instr.indexAt 61 t_156 (.int .i64 0)) w fun t_157 w =>
          pvv prog (Instr.fieldAt 67 t_157 0) w fun t_158 w =>
          ldv prog (Instr.loadAt 22 t_158) w fun t_159 w =>
          pvv prog (Instr.indexAt 61 t_153 t_154) w fun t_160 w =>
          pvv prog (Instr.fieldAt 67 t_160 0) w fun t_161 w =>
          efu prog (Instr.storeAt 22 t_161 t_159) w fun u_162 w =>
          pvv prog (Instr.build 63 #[(0, (.bool false)), (1, t_153)]) w fun t_163 w =>
          efu prog (Instr.storeAt 63 (.pointer (some ⟨t1, 0, none⟩)) t_163) w fun u_164 w =>
          ∃ r_165, (do loadVar 63 (← asAddr (.pointer (some ⟨t1, 0, none⟩)))).run prog w = .ok r_165 w ∧ K r_165 w)))))) fun k_175 =>
      pvv prog (Instr.fieldAt 63 rightv_58 0) w fun t_176 w =>
      ldv prog (Instr.loadAt 4 t_176) w fun t_177 w =>
      pvv prog (Op.unary .not t_177) w fun t_178 w =>
      cd t_178 (
        pvv prog (Instr.fieldAt 63 rightv_58 1) w fun t_179 w =>
        ldv prog (Instr.loadAt 61 t_179) w fun t_180 w =>
        Calls prog 84 #[t_180] w (Ret fun t_181 w =>
        pvv prog (Instr.fieldAt 63 rightv_58 1) w fun t_182 w =>
        efu prog (Instr.storeAt 61 t_182 t_181) w fun u_183 w =>
        pvv prog (Instr.fieldAt 63 rightv_58 1) w fun t_184 w =>
        ldv prog (Instr.loadAt 61 t_184) w fun t_185 w =>
        pvv prog (Instr.fieldAt 67 (.pointer (some ⟨bb, 0, none⟩)) 0) w fun t_186 w =>
        ldv prog (Instr.loadAt 22 t_186) w fun t_187 w =>
        pvv prog (Instr.indexAt 61 t_185 (.int .i64 0)) w fun t_188 w =>
        pvv prog (Instr.fieldAt 67 t_188 0) w fun t_189 w =>
        efu prog (Instr.storeAt 22 t_189 t_187) w fun u_190 w =>
        k_175 [] w)) <|
      k_175 [] w) := by
  generalize hF1 : (pts ab (.cells (ecells xs[i]).toArray 67 (0, 0)) * (pts bb (.cells (ecells xs[i + 1]).toArray 67 (0, 0)) * (pts t1 (.cells [Value.bool false, .slice none 0 0].toArray 63 (0, 0)) * (bxN n0 false lv * (osl 67 3 lv xs.length (elv xs) * (pers φ * R)))))) = F1
  have h : sat E w (chg C (c + 3) s * F1) := by rw [← hF1]; exact h
  have okl : NdOk left := by
    obtain ⟨q1, q2⟩ := readS_some hl
    have := chg_ok h q1; rw [q2] at this; exact this
  have okr : NdOk right := by
    obtain ⟨q1, q2⟩ := readS_some hr
    have := chg_ok h q1; rw [q2] at this; exact this
  have hA : ∀ {w : World} {Y : HP}, sat E w (Y * F1) → sat E w (pts ab (.cells (ecells xs[i]).toArray 67 (0, 0)) * (Y * (pts bb (.cells (ecells xs[i + 1]).toArray 67 (0, 0)) * (pts t1 (.cells [Value.bool false, .slice none 0 0].toArray 63 (0, 0)) * (bxN n0 false lv * (osl 67 3 lv xs.length (elv xs) * (pers φ * R))))))) := fun h => by rw [← hF1] at h; exact h.perm (by ac_rfl)
  have hB : ∀ {w : World} {Y : HP}, sat E w (Y * F1) → sat E w (pts bb (.cells (ecells xs[i + 1]).toArray 67 (0, 0)) * (Y * (pts ab (.cells (ecells xs[i]).toArray 67 (0, 0)) * (pts t1 (.cells [Value.bool false, .slice none 0 0].toArray 63 (0, 0)) * (bxN n0 false lv * (osl 67 3 lv xs.length (elv xs) * (pers φ * R))))))) := fun h => by rw [← hF1] at h; exact h.perm (by ac_rfl)
  have e1 : ∀ {w : World} {σ : List (Option Value)} {X Y1 Y2 : HP}, sat E w (slots (φR left.l right.l) σ (X * (Y1 * (Y2 * F1)))) → sat E w ((X * (Y1 * Y2)) * F1) := fun h => (slots.old h).perm (by ac_rfl)
  simp only [↓opsA, opsB, if_true, if_false, ↓reduceIte]
  refine ⟨readJ E (φR left.l right.l) C c s F1, ⟨none, none, rfl, rfl, rfl, slots_start (chg_le (show sat E w (chg C (c + 3) s * (emp * (emp * F1))) by rw [emp_star, emp_star]; exact h) (show c + (1 + 1) ≤ c + 3 by omega))⟩, ?_, ?_, ?_, ?_, ?_⟩
  · rintro σ w ⟨o1, o2, ho1, ho2, hsl, h⟩ hu
    refine read_slot (k := 0) (c := c + left_ σ 3) (.inl ⟨rfl, rfl⟩) hl hlr.1 (by rw [left_none hu]; omega) h fun v w h => ?_
    refine st_in (b := bb) (v := .int .i64 xs[i + 1].e.pg) (hB (e1 h)) rfl ?_
    refine ⟨o1, o2, by rw [List.getElem?_set_ne (by omega)]; exact ho1, by rw [List.getElem?_set_ne (by omega)]; exact ho2, by simpa using hsl, ?_⟩
    rw [left_done (by omega), left_set (by omega), Nat.zero_add]
    exact h
  · rintro σ w ⟨o1, o2, ho1, ho2, hsl, h⟩ hu
    have e0 := ptrO_none ho1 hu
    subst e0
    refine alloc_sl h fun l0 w h => ?_
    refine st_in (b := bb) (v := .int .i64 xs[i + 1].e.pg) (hB (e1 h.drop)) rfl ?_
    refine st_in (b := ab) (v := .int .i64 xs[i].e.pg) (hA (e1 h.drop)) rfl ?_
    refine ⟨some l0, o2, by rw [List.getElem?_set_self (by omega)]; rfl, by rw [List.getElem?_set_ne (by omega)]; exact ho2, by simpa using hsl, ?_⟩
    rw [left_set (by omega), left_set (by omega)]
    refine slots.put ?_ trivial
    unfold slots at h ⊢
    rw [show ob [Value.bool false, .slice none 0 0] 63 none = emp from rfl, emp_star] at h
    have h : sat E w (ob [Value.bool false, .slice none 0 0] 63 (some l0) * _) := h
    exact h.perm (by ac_rfl)
  · rintro σ w ⟨o1, o2, ho1, ho2, hsl, h⟩ hu
    have e0 := ptrO_none ho2 hu
    subst e0
    refine alloc_sl h fun l0 w h => ?_
    refine st_in (b := bb) (v := .int .i64 xs[i + 1].e.pg) (hB (e1 h.drop)) rfl ?_
    refine st_in (b := ab) (v := .int .i64 xs[i].e.pg) (hA (e1 h.drop)) rfl ?_
    refine ⟨o1, some l0, by rw [List.getElem?_set_ne (by omega)]; exact ho1, by rw [List.getElem?_set_self (by omega)]; rfl, by simpa using hsl, ?_⟩
    rw [left_set (by omega), left_set (by omega)]
    refine slots.put ?_ trivial
    unfold slots at h ⊢
    rw [show ob [Value.bool false, .slice none 0 0] 63 none = emp from rfl, emp_star] at h
    have h : sat E w (ob [Value.bool false, .slice none 0 0] 63 (some l0) * _) := h
    exact h.perm (by ac_rfl)
  · rintro σ w ⟨o1, o2, ho1, ho2, hsl, h⟩ hu
    refine read_slot (k := 3) (c := c + left_ σ 0) (.inr ⟨rfl, rfl⟩) hr hlr.2 (by rw [left_none hu]; omega) h fun v w h => ?_
    refine st_in (b := ab) (v := .int .i64 xs[i].e.pg) (hA (e1 h)) rfl ?_
    refine ⟨o1, o2, by rw [List.getElem?_set_ne (by omega)]; exact ho1, by rw [List.getElem?_set_ne (by omega)]; exact ho2, by simpa using hsl, ?_⟩
    rw [left_done (j := 3) (by omega), left_set (by omega), Nat.add_zero]
    exact h
  · clear h
    rintro σ w ⟨o1, o2, ho1, ho2, hsl, h⟩ t0 h0 tl htl tr htr t3 h3
    obtain ⟨lb, rfl⟩ : ∃ l0, o1 = some l0 := by
      rw [ho1] at htl
      cases o1 with
      | none => simp [ptrO] at htl
      | some l => exact ⟨l, rfl⟩
    obtain ⟨rb, rfl⟩ : ∃ l0, o2 = some l0 := by
      rw [ho2] at htr
      cases o2 with
      | none => simp [ptrO] at htr
      | some l => exact ⟨l, rfl⟩
    have hb1 : tl = .pointer (some ⟨lb, 0, none⟩) := by rw [ho1] at htl; simp [ptrO] at htl; exact htl.symm
    have hb2 : tr = .pointer (some ⟨rb, 0, none⟩) := by rw [ho2] at htr; simp [ptrO] at htr; exact htr.symm
    subst hb1; subst hb2
    rw [left_some h0, left_some h3] at h
    unfold slots at h
    obtain ⟨⟨⟨lvl, ls⟩, lvr, rs⟩, h⟩ := pers_open (P := twoP t0 t3 left.l right.l) (fun I hI => by
      obtain ⟨lv, xs, a1, a2, a3, a4⟩ := hI 0 _ h0
      obtain ⟨lv', xs', b1, b2, b3, b4⟩ := hI 3 _ h3
      exact ⟨((lv, xs), lv', xs'), ⟨⟨a1, b1⟩, a2, b2⟩, ⟨a3, a4⟩, b3, b4⟩) h
    obtain ⟨⟨⟨et0, et3⟩, hls, hrs⟩, _⟩ := h.pers_get
    have et0 : t0 = nv true lvl := et0
    have et3 : t3 = nv true lvr := et3
    have hls : esv ls = left.l := hls
    have hrs : esv rs = right.l := hrs
    subst et0; subst et3
    have h : sat E w (pers (twoP (nv true lvl) (nv true lvr) left.l right.l ((lvl, ls), lvr, rs)) * (chg C (c + (0 + 0)) s * (pts lb (.cells [Value.bool false, .slice none 0 0].toArray 63 (0, 0)) * (pts rb (.cells [Value.bool false, .slice none 0 0].toArray 63 (0, 0)) * F1)))) := h
    obtain ⟨hfl, hll⟩ := ok_few okl hls
    obtain ⟨hfr, hlr2⟩ := ok_few okr hrs
    rw [← hF1] at h
    have h := h.perm (show _ = (pers φ * pers (twoP (nv true lvl) (nv true lvr) left.l right.l ((lvl, ls), lvr, rs))) * (chg C (c + (0 + 0)) s * (pts lb (.cells [Value.bool false, .slice none 0 0].toArray 63 (0, 0)) * (pts rb (.cells [Value.bool false, .slice none 0 0].toArray 63 (0, 0)) * (osl 67 3 lv xs.length (elv xs) * (bxN n0 false lv * (pts t1 (.cells [Value.bool false, .slice none 0 0].toArray 63 (0, 0)) * (pts ab (.cells (ecells xs[i]).toArray 67 (0, 0)) * (pts bb (.cells (ecells xs[i + 1]).toArray 67 (0, 0)) * R)))))))) by ac_rfl)
    rw [pers_and] at h
    have hbp := both_part (K := K) (n' := n') (s' := s') (c := c) (s := s) (φ := φ.and (twoP (nv true lvl) (nv true lvr) left.l right.l ((lvl, ls), lvr, rs))) (lvl := lvl) (lvr := lvr) (n0 := n0) (t1 := t1) (ab := ab) (bb := bb) (lb := lb) (rb := rb) hm hi hf hfl hfr hll hlr2 (fun I hI => hx I hI.1) (fun I hI => ⟨hI.2.2.1, hI.2.2.2⟩) (by rw [hls, hrs]; exact hres) (h.perm (by simp only [Nat.add_zero]; ac_rfl)) fun lv' ys w' a1 a2 a3 h => k lv' ys w' a1 a2 a3 (by
      have h := (h.perm (show _ = pers (φ.and (twoP (nv true lvl) (nv true lvr) left.l right.l ((lvl, ls), lvr, rs))) * (osl 67 3 lv' ys.length (elv ys) * (pers (evP ys) * (chg C c s' * R))) by ac_rfl)).pers_mono (ψ := φ) fun I hI => hI.1
      exact h.perm (by ac_rfl))
    simp only [↓opsA, opsB, if_true, if_false, ↓reduceIte] at hbp
    simp only [↓opsA, opsB, if_true, if_false, ↓reduceIte]
    exact hbp
theorem mend_head {C : Cx} {c m : Nat} {s s' : St} {i : Nat} {lv : Value} {xs : List Ev} {n' : Nd} {φ : PP} {T : Value → Value → World → Prop} (hm : C.mo = some m) (hM : mendL C.N s ⟨false, esv xs⟩ i = some (n', s')) (hi : i < xs.length) (hx : ∀ I, φ.p I → ∀ x ∈ xs, evJ I x) (hf : Few xs) (hn : xs.length ≤ 900)
    (h : sat E w (osl 67 3 lv xs.length (elv xs) * (chg C (c + 4) s * (pers φ * R))))
    (krest : ∀ (n0 t1 : Nat) lv w' (ce : En) (ch : Nd), (⟨false, esv xs⟩ : Nd).l[i]? = some ce → readS C.N s ce.pg = some ch → ch.poor = true → ¬ xs.length < 2 → sat E w' (pts t1 (.cells [Value.bool false, .slice none 0 0].toArray 63 (0, 0)) * (bxN n0 false lv * (osl 67 3 lv xs.length (elv xs) * (chg C (c + 3) s * (pers φ * R))))) → T (.pointer (some ⟨n0, 0, none⟩)) (.pointer (some ⟨t1, 0, none⟩)) w')
    (k : ∀ lv' ys w', n'.leaf = false → esv ys = n'.l → Few ys → sat E w' (osl 67 3 lv' ys.length (elv ys) * (pers (evP ys) * (chg C c s' * (pers φ * R)))) → K (nv false lv') w') : (
  efv prog (Instr.box 63 (nv false lv)) w fun n_0 w =>
  efv prog (Instr.alloc 63 true (.tuple #[])) w fun t_1 w =>
  pvv prog (Instr.fieldAt 63 n_0 1) w fun t_2 w =>
  ldv prog (Instr.loadAt 61 t_2) w fun t_3 w =>
  pv prog (oBi .len #[61] 3 #[false] #[t_3]) w fun t_4 w =>
  pvv prog (binOp .lss 3 t_4 (.int .i64 2)) w fun t_5 w =>
  gate (some (t_5, false)) (fun K => K (.pointer (some ⟨C.cb, 0, none⟩)) w) w fun t_6 w =>
  gate (some (t_5, false)) (fun K => pvv prog (Instr.fieldAt 63 n_0 1) w K) w fun t_7 w =>
  gate (some (t_5, false)) (fun K => ldv prog (Instr.loadAt 61 t_7) w K) w fun t_8 w =>
  gate (some (t_5, false)) (fun K => K (.int .i64 i) w) w fun t_9 w =>
  gate (some (t_5, false)) (fun K => pvv prog (Instr.indexAt 61 t_8 t_9) w K) w fun t_10 w =>
  gate (some (t_5, false)) (fun K => pvv prog (Instr.fieldAt 67 t_10 2) w K) w fun t_11 w =>
  gate (some (t_5, false)) (fun K => ldv prog (Instr.loadAt 3 t_11) w K) w fun t_12 w =>
  gate (some (t_5, false)) (fun K => Calls prog 52 #[t_6, t_12] w (Ret K)) w fun t_13 w =>
  gate (some (t_5, false)) (fun K => Calls prog 61 #[t_13] w (Ret K)) w fun t_14 w =>
  gate (some (t_5, false)) (fun K => pvv prog (Op.unary .not t_14) w K) w fun t_15 w =>
  pv prog (oPick t_5 (.bool true) t_15) w fun t_16 w =>
  cd t_16 (
    ldv prog (Instr.loadAt 63 n_0) w fun t_17 w =>
    efu prog (Instr.storeAt 63 t_1 t_17) w fun u_18 w =>
    ∃ r_19, (do loadVar 63 (← asAddr t_1)).run prog w = .ok r_19 w ∧ K r_19 w) <|
  T n_0 t_1 w) := by
  obtain ⟨a, c1, rfl, hc, _, _⟩ := osl_shape h
  refine box_sl h fun n0 w h => ?_
  have h : sat E w (bxN n0 false (.slice a xs.length c1) * (osl 67 3 (.slice a xs.length c1) xs.length (elv xs) * (chg C (c + 4) s * (pers φ * R)))) := h
  refine alloc_sl h fun t1 w h => ?_
  have h : sat E w (pts t1 (.cells [Value.bool false, .slice none 0 0].toArray 63 (0, 0)) * (bxN n0 false (.slice a xs.length c1) * (osl 67 3 (.slice a xs.length c1) xs.length (elv xs) * (chg C (c + 4) s * (pers φ * R))))) := h
  simp only [↓o_field, ↓o_len]
  refine ld_in (b := n0) (xs := [Value.bool false, .slice a xs.length c1]) (v := .slice a xs.length c1) h rfl ?_
  rw [o_len, o_lss]
  unfold mendL at hM
  have hlen : (⟨false, esv xs⟩ : Nd).l.length = xs.length := esv_len xs
  rw [hlen] at hM
  have hend : ∀ {w : World}, n' = ⟨false, esv xs⟩ → s' = s → sat E w (pts t1 (.cells [Value.bool false, .slice none 0 0].toArray 63 (0, 0)) * (bxN n0 false (.slice a xs.length c1) * (osl 67 3 (.slice a xs.length c1) xs.length (elv xs) * (chg C c s * (pers φ * R))))) → (
      ldv prog (Instr.loadAt 63 (.pointer (some ⟨n0, 0, none⟩))) w fun t_17 w =>
      efu prog (Instr.storeAt 63 (.pointer (some ⟨t1, 0, none⟩)) t_17) w fun u_18 w =>
      ∃ r_19, (do loadVar 63 (← asAddr (.pointer (some ⟨t1, 0, none⟩)))).run prog w = .ok r_19 w ∧ K r_19 w) := fun {w} e1 e2 h => by
    subst e1; subst e2
    refine ld_agg (b := n0) (xs := [Value.bool false, .slice a xs.length c1]) h rfl ?_
    refine res_all (b := t1) h (vs := [Value.bool false, .slice a xs.length c1]) rfl rfl (by simp [Value.oneCell']) fun w h => ?_
    refine k _ xs w rfl rfl hf ?_
    have h := h.drop.drop
    have h := h.perm (show _ = pers φ * (osl 67 3 (.slice a xs.length c1) xs.length (elv xs) * (chg C c s' * R)) by ac_rfl)
    have h := h.pers_new (ψ := evP xs) fun I hI => hx I hI
    exact h.perm (by ac_rfl)
  have hle : ∀ {w : World} {c' : Nat}, c ≤ c' → sat E w (pts t1 (.cells [Value.bool false, .slice none 0 0].toArray 63 (0, 0)) * (bxN n0 false (.slice a xs.length c1) * (osl 67 3 (.slice a xs.length c1) xs.length (elv xs) * (chg C c' s * (pers φ * R))))) → sat E w (pts t1 (.cells [Value.bool false, .slice none 0 0].toArray 63 (0, 0)) * (bxN n0 false (.slice a xs.length c1) * (osl 67 3 (.slice a xs.length c1) xs.length (elv xs) * (chg C c s * (pers φ * R))))) := fun {w c'} hcc h => by
    have h := chg_le (h.perm (show _ = chg C c' s * (pts t1 (.cells [Value.bool false, .slice none 0 0].toArray 63 (0, 0)) * (bxN n0 false (.slice a xs.length c1) * (osl 67 3 (.slice a xs.length c1) xs.length (elv xs) * (pers φ * R)))) by ac_rfl)) hcc
    exact h.perm (by ac_rfl)
  by_cases h2 : xs.length < 2
  · rw [if_pos h2] at hM
    cases hM
    have h2' : (xs.length : Int) < 2 := by omega
    simp only [h2', ↓opsA, opsB, if_true, if_false, ↓reduceIte]
    exact hend rfl rfl (hle (by omega) h)
  · rw [if_neg h2] at hM
    have h2' : ¬ (xs.length : Int) < 2 := by omega
    obtain ⟨ce, hce, hM⟩ := Option.bind_eq_some_iff.1 hM
    obtain ⟨ch, hch, hM⟩ := Option.bind_eq_some_iff.1 hM
    have hch0 := hch
    have hce2 : xs[i].e = ce := by
      rw [← esv_at xs hi]
      exact (List.getElem?_eq_some_iff.1 hce).2
    simp only [h2', ↓opsA, opsB, if_true, if_false, ↓reduceIte]
    refine ld_in (b := n0) (xs := [Value.bool false, .slice a xs.length c1]) (v := .slice a xs.length c1) h rfl ?_
    have hrd : Rds (pts t1 (.cells [Value.bool false, .slice none 0 0].toArray 63 (0, 0)) * (bxN n0 false (.slice a xs.length c1) * (osl 67 3 (.slice a xs.length c1) xs.length (elv xs) * (chg C (c + 4) s * (pers φ * R))))) (.slice a xs.length c1) xs.length (elv xs) := Rds.osl.left.right.right
    obtain ⟨b, o, rfl, _⟩ := ld_ev h hrd hi
    rw [o_index (by omega) (by omega)]
    simp only [↓opsA, opsB, if_true, if_false, ↓reduceIte, Int.toNat_natCast]
    have hpg : (elv xs)[i * 3 + 2]? = some (.int .i64 ce.pg) := by
      have := take_cell (o := i * 3) (j := 2) (elv_at hi) rfl
      rw [this]
      show some (Value.int .i64 (xs[i].e.pg)) = _
      rw [hce2]
    refine ld_rd h hrd (i * 3 + 2) (by omega) hpg ?_
    have h := h.perm (show _ = chg C (c + 4) s * (pts t1 (.cells [Value.bool false, .slice none 0 0].toArray 63 (0, 0)) * (bxN n0 false (.slice (some ⟨b, o, none⟩) xs.length c1) * (osl 67 3 (.slice (some ⟨b, o, none⟩) xs.length c1) xs.length (elv xs) * (pers φ * R)))) by ac_rfl)
    refine read_spec hch h fun lv2 zs w hzs ok h => ?_
    refine poor_spec h (Rds.osl.left) (ok_few ok hzs).1 fun w h => ?_
    have epoor : (⟨ch.leaf, esv zs⟩ : Nd).poor = ch.poor := by rw [hzs]
    rw [epoor]
    have h := h.drop.drop.perm (show _ = pts t1 (.cells [Value.bool false, .slice none 0 0].toArray 63 (0, 0)) * (bxN n0 false (.slice (some ⟨b, o, none⟩) xs.length c1) * (osl 67 3 (.slice (some ⟨b, o, none⟩) xs.length c1) xs.length (elv xs) * (chg C (c + 3) s * (pers φ * R)))) by ac_rfl)
    by_cases hp : ch.poor = true
    · rw [hp]
      simp only [↓opsA, opsB, if_true, if_false, ↓reduceIte]
      exact krest n0 t1 (.slice (some ⟨b, o, none⟩) xs.length c1) w ce ch hce hch hp h2 h
    · rw [if_neg hp] at hM
      cases hM
      have hp' : ch.poor = false := by simpa using hp
      rw [hp']
      simp only [↓opsA, opsB, if_true, if_false, ↓reduceIte]
      exact hend rfl rfl (hle (c' := c + 3) (by omega) h)
theorem mend_mid {C : Cx} {c m : Nat} {s s' : St} {i n0 t1 : Nat} {lv : Value} {xs : List Ev} {n' : Nd} {φ : PP} {ce : En} {ch : Nd} {T : Value → Value → Value → Value → Sem Next → Sem Next → Value → Value → World → Prop} (hm : C.mo = some m) (hM : mendL C.N s ⟨false, esv xs⟩ i = some (n', s')) (hi : i < xs.length) (hx : ∀ I, φ.p I → ∀ x ∈ xs, evJ I x) (hf : Few xs) (hn : xs.length ≤ 900)
    (hce : (⟨false, esv xs⟩ : Nd).l[i]? = some ce) (hch : readS C.N s ce.pg = some ch) (hp : ch.poor = true) (h2 : ¬ xs.length < 2)
    (h : sat E w (pts t1 (.cells [Value.bool false, .slice none 0 0].toArray 63 (0, 0)) * (bxN n0 false lv * (osl 67 3 lv xs.length (elv xs) * (chg C (c + 3) s * (pers φ * R))))))
    (krest : ∀ (ab bb b o c1 j : Nat) w', lv = .slice (some ⟨b, o, none⟩) xs.length c1 → ∀ (hj : j + 1 < xs.length) {left right : Nd}, readS C.N s xs[j].e.pg = some left → readS C.N s xs[j + 1].e.pg = some right → left.leaf = true ∧ right.leaf = true → (if (⟨true, left.l ++ right.l⟩ : Nd).bytes ≤ 253 then
          (giveS C.N s xs[j + 1].e.pg).bind fun s1 => (putS C.N s1 xs[j].e.pg (.node ⟨true, left.l ++ right.l⟩)).bind fun s2 => some (⟨false, (esv xs).eraseIdx (j + 1)⟩, s2)
        else ((left.l ++ right.l)[halfP ⟨true, left.l ++ right.l⟩]?).bind fun e =>
          (putS C.N s xs[j].e.pg (.node ⟨true, (left.l ++ right.l).take (halfP ⟨true, left.l ++ right.l⟩)⟩)).bind fun s1 =>
          (putS C.N s1 xs[j + 1].e.pg (.node ⟨true, (left.l ++ right.l).drop (halfP ⟨true, left.l ++ right.l⟩)⟩)).bind fun s2 =>
          some (⟨false, (esv xs).set (j + 1) { xs[j + 1].e with k := e.k }⟩, s2)) = some (n', s') →
        sat E w' (pts ab (.cells [Value.slice none 0 0, .slice none 0 0, .int .i64 0].toArray 67 (0, 0)) * (pts bb (.cells [Value.slice none 0 0, .slice none 0 0, .int .i64 0].toArray 67 (0, 0)) * (pts t1 (.cells [Value.bool false, .slice none 0 0].toArray 63 (0, 0)) * (bxN n0 false lv * (osl 67 3 lv xs.length (elv xs) * (chg C (c + 3) s * (pers φ * R))))))) →
        T (.pointer (some ⟨ab, 0, none⟩)) (.pointer (some ⟨bb, 0, none⟩)) (.agg (ecells xs[j]).toArray) (.agg (ecells xs[j + 1]).toArray) (vN (Instr.loadAt 67 (.pointer (some ⟨b, o + (j + 1) * 3, none⟩)))) (vN (Instr.loadAt 61 (.pointer (some ⟨n0, 1, none⟩)))) lv (.int .i64 j) w') : (
  pvv prog (Instr.fieldAt 63 (.pointer (some ⟨n0, 0, none⟩)) 1) w fun t_20 w =>
  ldv prog (Instr.loadAt 61 t_20) w fun t_21 w =>
  pv prog (oBi .len #[61] 3 #[false] #[t_21]) w fun t_22 w =>
  pvv prog (binOp .sub 3 t_22 (.int .i64 2)) w fun t_23 w =>
  pv prog (oBi .min #[3, 3] 3 #[false, false] #[(.int .i64 i), t_23]) w fun t_24 w =>
  dr w fun w =>
  pvv prog (Instr.fieldAt 63 (.pointer (some ⟨n0, 0, none⟩)) 1) w fun t_25 w =>
  pvv prog (Instr.fieldAt 63 (.pointer (some ⟨n0, 0, none⟩)) 1) w fun t_26 w =>
  pvv prog (binOp .add 3 t_24 (.int .i64 1)) w fun t_27 w =>
  bindS (vN (Instr.loadAt 61 t_25)) fun m_29 => ldv prog (Instr.loadAt 61 t_25) w fun t_28 w =>
  pvv prog (Instr.indexAt 61 t_28 t_24) w fun t_30 w =>
  bindS (vN (Instr.loadAt 67 t_30)) fun m_32 => ldv prog (Instr.loadAt 67 t_30) w fun t_31 w =>
  bindS (vN (Instr.loadAt 61 t_26)) fun m_34 => ldv prog (Instr.loadAt 61 t_26) w fun t_33 w =>
  pvv prog (Instr.indexAt 61 t_33 t_27) w fun t_35 w =>
  bindS (vN (Instr.loadAt 67 t_35)) fun m_37 => ldv prog (Instr.loadAt 67 t_35) w fun t_36 w =>
  par 2 w fun J_38 =>
    (∀ (σ : List (Option Value)) (w : World), J_38 σ w → un σ 0 (efv prog (Instr.alloc 67 true (.tuple #[])) w fun v_39 w => stay prog none m_37 t_36 w <| stay prog none m_34 t_33 w <| stay prog none m_32 t_31 w <| stay prog none m_29 t_28 w <| J_38 (σ.set 0 (some v_39)) w)) ∧
    (∀ (σ : List (Option Value)) (w : World), J_38 σ w → un σ 1 (efv prog (Instr.alloc 67 true (.tuple #[])) w fun v_40 w => stay prog none m_37 t_36 w <| stay prog none m_34 t_33 w <| stay prog none m_32 t_31 w <| stay prog none m_29 t_28 w <| J_38 (σ.set 1 (some v_40)) w)) ∧
    ∀ (σ : List (Option Value)) (w : World), J_38 σ w → is σ 0 fun a_41 => is σ 1 fun b_42 => 
    T a_41 b_42 t_31 t_36 m_37 m_34 t_33 t_24 w) := by
  obtain ⟨a, c1, rfl, hc, _, _⟩ := osl_shape (h.perm (show _ = osl 67 3 lv xs.length (elv xs) * (pts t1 (.cells [Value.bool false, .slice none 0 0].toArray 63 (0, 0)) * (bxN n0 false lv * (chg C (c + 3) s * (pers φ * R)))) by ac_rfl))
  have hrd0 : Rds (pts t1 (.cells [Value.bool false, .slice none 0 0].toArray 63 (0, 0)) * (bxN n0 false (.slice a xs.length c1) * (osl 67 3 (.slice a xs.length c1) xs.length (elv xs) * (chg C (c + 3) s * (pers φ * R))))) (.slice a xs.length c1) xs.length (elv xs) := Rds.osl.left.right.right
  obtain ⟨b, o, rfl, _⟩ := ld_ev h hrd0 hi
  unfold mendL at hM
  have hlen : (⟨false, esv xs⟩ : Nd).l.length = xs.length := esv_len xs
  rw [hlen, if_neg h2, hce, Option.bind_some, hch, Option.bind_some, if_pos hp] at hM
  have hlt : min i (xs.length - 2) + 1 < xs.length := by omega
  have ei : min (i : Int) ((xs.length : Int) - 2) = ((min i (xs.length - 2) : Nat) : Int) := by omega
  generalize min i (xs.length - 2) = j at *
  obtain ⟨ea, hea, hM⟩ := Option.bind_eq_some_iff.1 hM
  obtain ⟨eb, heb, hM⟩ := Option.bind_eq_some_iff.1 hM
  obtain ⟨left, hl, hM⟩ := Option.bind_eq_some_iff.1 hM
  obtain ⟨right, hr, hM⟩ := Option.bind_eq_some_iff.1 hM
  have hj : j < xs.length := by omega
  have hea2 : xs[j].e = ea := by
    rw [← esv_at xs hj]
    exact (List.getElem?_eq_some_iff.1 hea).2
  have heb2 : xs[j + 1].e = eb := by
    rw [← esv_at xs hlt]
    exact (List.getElem?_eq_some_iff.1 heb).2
  subst hea2; subst heb2
  by_cases hlr : left.leaf = true ∧ right.leaf = true
  case neg => rw [if_neg hlr] at hM; cases hM
  rw [if_pos hlr] at hM
  simp only [↓opsA, opsB, if_true, if_false, ↓reduceIte]
  refine ld_in (b := n0) (xs := [Value.bool false, .slice (some ⟨b, o, none⟩) xs.length c1]) (v := .slice (some ⟨b, o, none⟩) xs.length c1) h rfl ?_
  simp only [↓opsA, opsB, if_true, if_false, ↓reduceIte]
  rw [i64_of (n := (xs.length : Int) - 2) (by omega) (by omega), ei]
  refine dr_sl h fun w h _ => ?_
  try simp only [↓opsA, opsB, if_true, if_false, ↓reduceIte]
  refine ld_in (b := n0) (xs := [Value.bool false, .slice (some ⟨b, o, none⟩) xs.length c1]) (v := .slice (some ⟨b, o, none⟩) xs.length c1) h rfl ?_
  rw [o_index (by omega) (by omega)]
  simp only [Int.toNat_natCast]
  have hrd2 : Rds (pts t1 (.cells [Value.bool false, .slice none 0 0].toArray 63 (0, 0)) * (bxN n0 false (.slice (some ⟨b, o, none⟩) xs.length c1) * (osl 67 3 (.slice (some ⟨b, o, none⟩) xs.length c1) xs.length (elv xs) * (chg C (c + 3) s * (pers φ * R))))) (.slice (some ⟨b, o, none⟩) xs.length c1) xs.length (elv xs) := Rds.osl.left.right.right
  refine ld_el h hrd2 (j * 3) rfl _ (ecells_len _) (elv_at hj) ?_
  refine ld_in (b := n0) (xs := [Value.bool false, .slice (some ⟨b, o, none⟩) xs.length c1]) (v := .slice (some ⟨b, o, none⟩) xs.length c1) h rfl ?_
  rw [show (j : Int) + 1 = ((j + 1 : Nat) : Int) by omega, i64_of (n := ((j + 1 : Nat) : Int)) (by omega) (by omega), o_index (by omega) (by omega)]
  simp only [Int.toNat_natCast]
  refine ld_el h hrd2 ((j + 1) * 3) rfl _ (ecells_len _) (elv_at hlt) ?_
  generalize hF0 : (pts t1 (.cells [Value.bool false, .slice none 0 0].toArray 63 (0, 0)) * (bxN n0 false (.slice (some ⟨b, o, none⟩) xs.length c1) * (osl 67 3 (.slice (some ⟨b, o, none⟩) xs.length c1) xs.length (elv xs) * (chg C (c + 3) s * (pers φ * R))))) = F0 at h hrd2
  have hn0 : ∀ {w : World} {Y : HP}, sat E w (Y * F0) → sat E w (bxN n0 false (.slice (some ⟨b, o, none⟩) xs.length c1) * (Y * (pts t1 (.cells [Value.bool false, .slice none 0 0].toArray 63 (0, 0)) * (osl 67 3 (.slice (some ⟨b, o, none⟩) xs.length c1) xs.length (elv xs) * (chg C (c + 3) s * (pers φ * R)))))) := fun h => by rw [← hF0] at h; exact h.perm (by ac_rfl)
  refine par_two [Value.slice none 0 0, .slice none 0 0, .int .i64 0] 67 h ⟨?_, ?_, ?_⟩
  · rintro σ w ⟨o0, o1', rfl, h⟩ hun
    have e0 : o0 = none := by cases o0 <;> simp [ptrO] at hun; rfl
    subst e0
    refine alloc_sl h fun l0 w h => ?_
    refine st_el h hrd2.right.right.right ((j + 1) * 3) rfl _ (ecells_len _) (elv_at hlt) ?_
    have h2 := hn0 (h.perm (show _ = (pts l0 (.cells [Value.slice none 0 0, .slice none 0 0, .int .i64 0].toArray 67 (0, 0)) * (ob [Value.slice none 0 0, .slice none 0 0, .int .i64 0] 67 none * ob [Value.slice none 0 0, .slice none 0 0, .int .i64 0] 67 o1')) * F0 by show pts l0 _ * _ = _; ac_rfl))
    refine st_in (b := n0) (xs := [Value.bool false, .slice (some ⟨b, o, none⟩) xs.length c1]) h2 rfl ?_
    refine st_el h hrd2.right.right.right (j * 3) rfl _ (ecells_len _) (elv_at hj) ?_
    refine st_in (b := n0) (xs := [Value.bool false, .slice (some ⟨b, o, none⟩) xs.length c1]) h2 rfl ?_
    refine ⟨some l0, o1', rfl, ?_⟩
    rw [show ob [Value.slice none 0 0, .slice none 0 0, .int .i64 0] 67 none = emp from rfl, emp_star] at h
    exact h
  · rintro σ w ⟨o0, o1', rfl, h⟩ hun
    have e0 : o1' = none := by cases o1' <;> simp [ptrO] at hun; rfl
    subst e0
    refine alloc_sl h fun l0 w h => ?_
    refine st_el h hrd2.right.right.right ((j + 1) * 3) rfl _ (ecells_len _) (elv_at hlt) ?_
    have h2 := hn0 (h.perm (show _ = (pts l0 (.cells [Value.slice none 0 0, .slice none 0 0, .int .i64 0].toArray 67 (0, 0)) * (ob [Value.slice none 0 0, .slice none 0 0, .int .i64 0] 67 o0 * ob [Value.slice none 0 0, .slice none 0 0, .int .i64 0] 67 none)) * F0 by show pts l0 _ * _ = _; ac_rfl))
    refine st_in (b := n0) (xs := [Value.bool false, .slice (some ⟨b, o, none⟩) xs.length c1]) h2 rfl ?_
    refine st_el h hrd2.right.right.right (j * 3) rfl _ (ecells_len _) (elv_at hj) ?_
    refine st_in (b := n0) (xs := [Value.bool false, .slice (some ⟨b, o, none⟩) xs.length c1]) h2 rfl ?_
    refine ⟨o0, some l0, rfl, ?_⟩
    rw [show ob [Value.slice none 0 0, .slice none 0 0, .int .i64 0] 67 none = emp from rfl, emp_star] at h
    exact h.perm (star_left_comm _ _ _)
  clear h
  rintro σ w ⟨o0, o1', rfl, h⟩ v0 hv0 v1 hv1
  obtain ⟨ab, rfl⟩ : ∃ l0, o0 = some l0 := by cases o0 with
    | none => simp [ptrO] at hv0
    | some l => exact ⟨l, rfl⟩
  obtain ⟨bb, rfl⟩ : ∃ r0, o1' = some r0 := by cases o1' with
    | none => simp [ptrO] at hv1
    | some l => exact ⟨l, rfl⟩
  have hv0 : v0 = .pointer (some ⟨ab, 0, none⟩) := by simp [ptrO] at hv0; exact hv0.symm
  have hv1 : v1 = .pointer (some ⟨bb, 0, none⟩) := by simp [ptrO] at hv1; exact hv1.symm
  subst hv0; subst hv1
  exact krest ab bb b o c1 j w rfl hlt hl hr hlr hM (by rw [← hF0] at h; exact h)
theorem mend_last {C : Cx} {c m : Nat} {s s' : St} {i n0 t1 ab bb b o c1 : Nat} {xs : List Ev} {left right : Nd} {φ : PP} {n' : Nd} (hm : C.mo = some m) (hi : i + 1 < xs.length) (hf : Few xs) (hx : ∀ I, φ.p I → ∀ x ∈ xs, evJ I x)
    (hl : readS C.N s xs[i].e.pg = some left) (hr : readS C.N s xs[i + 1].e.pg = some right) (hlr : left.leaf = true ∧ right.leaf = true)
    (hres : (if (⟨true, left.l ++ right.l⟩ : Nd).bytes ≤ 253 then
          (giveS C.N s xs[i + 1].e.pg).bind fun s1 => (putS C.N s1 xs[i].e.pg (.node ⟨true, left.l ++ right.l⟩)).bind fun s2 => some (⟨false, (esv xs).eraseIdx (i + 1)⟩, s2)
        else ((left.l ++ right.l)[halfP ⟨true, left.l ++ right.l⟩]?).bind fun e =>
          (putS C.N s xs[i].e.pg (.node ⟨true, (left.l ++ right.l).take (halfP ⟨true, left.l ++ right.l⟩)⟩)).bind fun s1 =>
          (putS C.N s1 xs[i + 1].e.pg (.node ⟨true, (left.l ++ right.l).drop (halfP ⟨true, left.l ++ right.l⟩)⟩)).bind fun s2 =>
          some (⟨false, (esv xs).set (i + 1) { xs[i + 1].e with k := e.k }⟩, s2)) = some (n', s'))
    (h : sat E w (pts ab (.cells [Value.slice none 0 0, .slice none 0 0, .int .i64 0].toArray 67 (0, 0)) * (pts bb (.cells [Value.slice none 0 0, .slice none 0 0, .int .i64 0].toArray 67 (0, 0)) * (pts t1 (.cells [Value.bool false, .slice none 0 0].toArray 63 (0, 0)) * (bxN n0 false (.slice (some ⟨b, o, none⟩) xs.length c1) * (osl 67 3 (.slice (some ⟨b, o, none⟩) xs.length c1) xs.length (elv xs) * (chg C (c + 3) s * (pers φ * R))))))))
    (k : ∀ lv' ys w', n'.leaf = false → esv ys = n'.l → Few ys → sat E w' (osl 67 3 lv' ys.length (elv ys) * (pers (evP ys) * (chg C c s' * (pers φ * R)))) → K (nv false lv') w') : (
    efu prog (Instr.storeAt 67 (.pointer (some ⟨ab, 0, none⟩)) (.agg (ecells xs[i]).toArray)) w fun u_43 w => stay prog none (vN (Instr.loadAt 67 (.pointer (some ⟨b, o + (i + 1) * 3, none⟩)))) (.agg (ecells xs[i + 1]).toArray) w <| stay prog none (vN (Instr.loadAt 61 (.pointer (some ⟨n0, 1, none⟩)))) (.slice (some ⟨b, o, none⟩) xs.length c1) w <| 
    efu prog (Instr.storeAt 67 (.pointer (some ⟨bb, 0, none⟩)) (.agg (ecells xs[i + 1]).toArray)) w fun u_44 w =>
    dr w fun w =>
    pvv prog (Instr.fieldAt 67 (.pointer (some ⟨ab, 0, none⟩)) 2) w fun t_45 w =>
    pvv prog (Instr.fieldAt 67 (.pointer (some ⟨bb, 0, none⟩)) 2) w fun t_46 w =>
    bindS (vN (Instr.loadAt 3 t_45)) fun m_48 => ldv prog (Instr.loadAt 3 t_45) w fun t_47 w =>
    bindS (vN (Instr.loadAt 3 t_46)) fun m_50 => ldv prog (Instr.loadAt 3 t_46) w fun t_49 w =>
    par 4 w fun J_51 =>
      (∀ (σ : List (Option Value)) (w : World), J_51 σ w → un σ 0 (Calls prog 52 #[(.pointer (some ⟨C.cb, 0, none⟩)), t_47] w (Ret fun v_52 w => stay prog none m_50 t_49 w <| J_51 (σ.set 0 (some v_52)) w))) ∧
      (∀ (σ : List (Option Value)) (w : World), J_51 σ w → un σ 1 (efv prog (Instr.alloc 63 true (.tuple #[])) w fun v_53 w => stay prog none m_50 t_49 w <| stay prog none m_48 t_47 w <| J_51 (σ.set 1 (some v_53)) w)) ∧
      (∀ (σ : List (Option Value)) (w : World), J_51 σ w → un σ 2 (efv prog (Instr.alloc 63 true (.tuple #[])) w fun v_54 w => stay prog none m_50 t_49 w <| stay prog none m_48 t_47 w <| J_51 (σ.set 2 (some v_54)) w)) ∧
      (∀ (σ : List (Option Value)) (w : World), J_51 σ w → un σ 3 (Calls prog 52 #[(.pointer (some ⟨C.cb, 0, none⟩)), t_49] w (Ret fun v_55 w => stay prog none m_48 t_47 w <| J_51 (σ.set 3 (some v_55)) w))) ∧
      ∀ (σ : List (Option Value)) (w : World), J_51 σ w → is σ 0 fun t_56 => is σ 1 fun left_57 => is σ 2 fun right_58 => is σ 3 fun t_59 => 
      efu prog (Instr.storeAt 63 left_57 t_56) w fun u_60 w => stay prog none m_50 t_49 w <| 
      efu prog (Instr.storeAt 63 right_58 t_59) w fun u_61 w =>
      jn (fun σ w => fin σ <|
        dr w fun w =>
        pvv prog (Instr.fieldAt 63 left_57 0) w fun t_62 w =>
        pvv prog (Instr.fieldAt 63 left_57 1) w fun t_63 w =>
        pvv prog (Instr.fieldAt 63 right_58 1) w fun t_64 w =>
        bindS (vN (Instr.loadAt 4 t_62)) fun m_66 => ldv prog (Instr.loadAt 4 t_62) w fun t_65 w =>
        bindS (vN (Instr.loadAt 61 t_63)) fun m_68 => ldv prog (Instr.loadAt 61 t_63) w fun t_67 w =>
        bindS (vN (Instr.loadAt 61 t_64)) fun m_70 => ldv prog (Instr.loadAt 61 t_64) w fun t_69 w =>
        par 4 w fun J_71 =>
          (∀ (σ : List (Option Value)) (w : World), J_71 σ w → un σ 0 (efv prog (Instr.buildSlice 204 2 #[(0, t_67), (1, t_69)]) w fun v_72 w => stay prog none m_66 t_65 w <| J_71 (σ.set 0 (some v_72)) w)) ∧
          (∀ (σ : List (Option Value)) (w : World), J_71 σ w → un σ 1 (efv prog (Instr.alloc 63 true (.tuple #[])) w fun v_73 w => stay prog none m_70 t_69 w <| stay prog none m_68 t_67 w <| stay prog none m_66 t_65 w <| J_71 (σ.set 1 (some v_73)) w)) ∧
          (∀ (σ : List (Option Value)) (w : World), J_71 σ w → un σ 2 (is σ 0 fun t_74 => Calls prog 120 #[t_74] w (Ret fun v_75 w => stay prog none m_70 t_69 w <| stay prog none m_68 t_67 w <| stay prog none m_66 t_65 w <| J_71 (σ.set 2 (some v_75)) w))) ∧
          (∀ (σ : List (Option Value)) (w : World), J_71 σ w → un σ 3 (is σ 2 fun t_76 => pvv prog (Instr.build 63 #[(0, t_65), (1, t_76)]) w fun v_77 w => J_71 (σ.set 3 (some v_77)) w)) ∧
          ∀ (σ : List (Option Value)) (w : World), J_71 σ w → is σ 0 fun t_78 => is σ 1 fun both_79 => is σ 2 fun t_80 => is σ 3 fun t_81 => 
          efu prog (Instr.storeAt 63 both_79 t_81) w fun u_82 w =>
          ldv prog (Instr.loadAt 63 both_79) w fun t_83 w =>
          Calls prog 62 #[t_83] w (Ret fun t_84 w =>
          pvv prog (binOp .leq 3 t_84 (.int .i64 253)) w fun t_85 w =>
          cd t_85 (
            pvv prog (Instr.fieldAt 67 (.pointer (some ⟨bb, 0, none⟩)) 2) w fun t_86 w =>
            ldv prog (Instr.loadAt 3 t_86) w fun t_87 w =>
            Calls prog 53 #[(.pointer (some ⟨C.cb, 0, none⟩)), t_87] w (Ret fun t_88 w =>
            dr w fun w =>
            pv prog (oNil (.pointer (some ⟨C.cb, 0, none⟩))) w fun t_89 w =>
            pvv prog (Instr.fieldAt 124 t_89 2) w fun t_90 w =>
            pvv prog (Instr.fieldAt 67 (.pointer (some ⟨ab, 0, none⟩)) 2) w fun t_91 w =>
            bindS (vN (Instr.loadAt 117 t_90)) fun m_93 => ldv prog (Instr.loadAt 117 t_90) w fun t_92 w =>
            bindS (vN (Instr.loadAt 3 t_91)) fun m_95 => ldv prog (Instr.loadAt 3 t_91) w fun t_94 w =>
            bindS (vN (Instr.loadAt 63 both_79)) fun m_97 => ldv prog (Instr.loadAt 63 both_79) w fun t_96 w =>
            Calls prog 50 #[t_96] w (Ret fun t_98 w => stay prog none m_95 t_94 w <| stay prog none m_93 t_92 w <| 
            efu prog (Instr.mapUpdate 117 t_92 t_94 t_98) w fun u_99 w =>
            pvv prog (Instr.fieldAt 63 (.pointer (some ⟨n0, 0, none⟩)) 1) w fun t_100 w =>
            ldv prog (Instr.loadAt 61 t_100) w fun t_101 w =>
            Calls prog 84 #[t_101] w (Ret fun t_102 w =>
            pvv prog (binOp .add 3 (.int .i64 i) (.int .i64 1)) w fun t_103 w =>
            pvv prog (binOp .add 3 (.int .i64 i) (.int .i64 2)) w fun t_104 w =>
            Calls prog 32 #[t_102, t_103, t_104] w (Ret fun t_105 w =>
            pvv prog (Instr.build 63 #[(0, (.bool false)), (1, t_105)]) w fun t_106 w =>
            efu prog (Instr.storeAt 63 (.pointer (some ⟨t1, 0, none⟩)) t_106) w fun u_107 w =>
            ∃ r_108, (do loadVar 63 (← asAddr (.pointer (some ⟨t1, 0, none⟩)))).run prog w = .ok r_108 w ∧ K r_108 w))))) <|
          ldv prog (Instr.loadAt 63 both_79) w fun t_111 w =>
          Calls prog 118 #[t_111] w (Ret fun t_112 w =>
          dr w fun w =>
          pvv prog (Instr.fieldAt 63 both_79 1) w fun t_113 w =>
          pvv prog (Instr.fieldAt 63 both_79 1) w fun t_114 w =>
          bindS (vN (Instr.loadAt 61 t_113)) fun m_116 => ldv prog (Instr.loadAt 61 t_113) w fun t_115 w =>
          pvv prog (Instr.sliceAt 61 t_115 none (some t_112) (some t_112)) w fun t_117 w =>
          pvv prog (Instr.fieldAt 63 left_57 1) w fun t_118 w =>
          bindS (vN (Instr.loadAt 61 t_114)) fun m_120 => ldv prog (Instr.loadAt 61 t_114) w fun t_119 w =>
          pvv prog (Instr.sliceAt 61 t_119 (some t_112) none none) w fun t_121 w =>
          efu prog (Instr.storeAt 61 t_118 t_117) w fun u_122 w => stay prog none m_120 t_119 w <| 
          pvv prog (Instr.fieldAt 63 right_58 1) w fun t_123 w =>
          efu prog (Instr.storeAt 61 t_123 t_121) w fun u_124 w =>
          dr w fun w =>
          pv prog (oNil (.pointer (some ⟨C.cb, 0, none⟩))) w fun t_125 w =>
          pvv prog (Instr.fieldAt 124 t_125 2) w fun t_126 w =>
          pvv prog (Instr.fieldAt 67 (.pointer (some ⟨ab, 0, none⟩)) 2) w fun t_127 w =>
          pv prog (oNil (.pointer (some ⟨C.cb, 0, none⟩))) w fun t_128 w =>
          pvv prog (Instr.fieldAt 124 t_128 2) w fun t_129 w =>
          pvv prog (Instr.fieldAt 67 (.pointer (some ⟨bb, 0, none⟩)) 2) w fun t_130 w =>
          bindS (vN (Instr.loadAt 117 t_126)) fun m_132 => ldv prog (Instr.loadAt 117 t_126) w fun t_131 w =>
          bindS (vN (Instr.loadAt 3 t_127)) fun m_134 => ldv prog (Instr.loadAt 3 t_127) w fun t_133 w =>
          bindS (vN (Instr.loadAt 117 t_129)) fun m_136 => ldv prog (Instr.loadAt 117 t_129) w fun t_135 w =>
          bindS (vN (Instr.loadAt 3 t_130)) fun m_138 => ldv prog (Instr.loadAt 3 t_130) w fun t_137 w =>
          bindS (vN (Instr.loadAt 63 left_57)) fun m_140 => ldv prog (Instr.loadAt 63 left_57) w fun t_139 w =>
          bindS (vN (Instr.loadAt 63 right_58)) fun m_142 => ldv prog (Instr.loadAt 63 right_58) w fun t_141 w =>
          Calls prog 50 #[t_139] w (Ret fun t_143 w => stay prog none m_142 t_141 w <| stay prog none m_138 t_137 w <| stay prog none m_136 t_135 w <| stay prog none m_134 t_133 w <| stay prog none m_132 t_131 w <| 
          Calls prog 50 #[t_141] w (Ret fun t_144 w => stay prog none m_140 t_139 w <| stay prog none m_138 t_137 w <| stay prog none m_136 t_135 w <| stay prog none m_134 t_133 w <| stay prog none m_132 t_131 w <| 
          efv prog (Instr.mapEntry 117 t_131 t_133) w fun t_145 w => stay prog none m_142 t_141 w <| stay prog none m_140 t_139 w <| stay prog none m_138 t_137 w <| 
          pvv prog (Instr.extract t_145 1) w fun t_146 w =>
          efu prog (Instr.entryStore 117 t_131 t_146 t_143) w fun u_147 w => stay prog none m_142 t_141 w <| stay prog none m_138 t_137 w <| 
          efv prog (Instr.mapEntry 117 t_135 t_137) w fun t_148 w => stay prog none m_142 t_141 w <| 
          pvv prog (Instr.extract t_148 1) w fun t_149 w =>
          efu prog (Instr.entryStore 117 t_135 t_149 t_144) w fun u_150 w =>
          pvv prog (Instr.fieldAt 63 (.pointer (some ⟨n0, 0, none⟩)) 1) w fun t_151 w =>
          ldv prog (Instr.loadAt 61 t_151) w fun t_152 w =>
          Calls prog 84 #[t_152] w (Ret fun t_153 w =>
          pvv prog (binOp .add 3 (.int .i64 i) (.int .i64 1)) w fun t_154 w =>
          pvv prog (Instr.fieldAt 63 right_58 1) w fun t_155 w =>
          ldv prog (Instr.loadAt 61 t_155) w fun t_156 w =>
          pvv prog (Instr.indexAt 61 t_156 (.int .i64 0)) w fun t_157 w =>
          pvv prog (Instr.fieldAt 67 t_157 0) w fun t_158 w =>
          ldv prog (Instr.loadAt 22 t_158) w fun t_159 w =>
          pvv prog (Instr.indexAt 61 t_153 t_154) w fun t_160 w =>
          pvv prog (Instr.fieldAt 67 t_160 0) w fun t_161 w =>
          efu prog (Instr.storeAt 22 t_161 t_159) w fun u_162 w =>
          pvv prog (Instr.build 63 #[(0, (.bool false)), (1, t_153)]) w fun t_163 w =>
          efu prog (Instr.storeAt 63 (.pointer (some ⟨t1, 0, none⟩)) t_163) w fun u_164 w =>
          ∃ r_165, (do loadVar 63 (← asAddr (.pointer (some ⟨t1, 0, none⟩)))).run prog w = .ok r_165 w ∧ K r_165 w)))))) fun k_175 =>
      pvv prog (Instr.fieldAt 63 right_58 0) w fun t_176 w =>
      ldv prog (Instr.loadAt 4 t_176) w fun t_177 w =>
      pvv prog (Op.unary .not t_177) w fun t_178 w =>
      cd t_178 (
        pvv prog (Instr.fieldAt 63 right_58 1) w fun t_179 w =>
        ldv prog (Instr.loadAt 61 t_179) w fun t_180 w =>
        Calls prog 84 #[t_180] w (Ret fun t_181 w =>
        pvv prog (Instr.fieldAt 63 right_58 1) w fun t_182 w =>
        efu prog (Instr.storeAt 61 t_182 t_181) w fun u_183 w =>
        pvv prog (Instr.fieldAt 63 right_58 1) w fun t_184 w =>
        ldv prog (Instr.loadAt 61 t_184) w fun t_185 w =>
        pvv prog (Instr.fieldAt 67 (.pointer (some ⟨bb, 0, none⟩)) 0) w fun t_186 w =>
        ldv prog (Instr.loadAt 22 t_186) w fun t_187 w =>
        pvv prog (Instr.indexAt 61 t_185 (.int .i64 0)) w fun t_188 w =>
        pvv prog (Instr.fieldAt 67 t_188 0) w fun t_189 w =>
        efu prog (Instr.storeAt 22 t_189 t_187) w fun u_190 w =>
        k_175 [] w)) <|
      k_175 [] w) := by
  have hrd2 : Rds (pts t1 (.cells [Value.bool false, .slice none 0 0].toArray 63 (0, 0)) * (bxN n0 false (.slice (some ⟨b, o, none⟩) xs.length c1) * (osl 67 3 (.slice (some ⟨b, o, none⟩) xs.length c1) xs.length (elv xs) * (chg C (c + 3) s * (pers φ * R))))) (.slice (some ⟨b, o, none⟩) xs.length c1) xs.length (elv xs) := Rds.osl.left.right.right
  generalize hF0 : (pts t1 (.cells [Value.bool false, .slice none 0 0].toArray 63 (0, 0)) * (bxN n0 false (.slice (some ⟨b, o, none⟩) xs.length c1) * (osl 67 3 (.slice (some ⟨b, o, none⟩) xs.length c1) xs.length (elv xs) * (chg C (c + 3) s * (pers φ * R))))) = F0 at h hrd2
  have hn0 : ∀ {w : World} {Y : HP}, sat E w (Y * F0) → sat E w (bxN n0 false (.slice (some ⟨b, o, none⟩) xs.length c1) * (Y * (pts t1 (.cells [Value.bool false, .slice none 0 0].toArray 63 (0, 0)) * (osl 67 3 (.slice (some ⟨b, o, none⟩) xs.length c1) xs.length (elv xs) * (chg C (c + 3) s * (pers φ * R)))))) := fun h => by rw [← hF0] at h; exact h.perm (by ac_rfl)
  refine store_all (b := ab) h (vs := ecells xs[i]) rfl rfl (ecells_one _) fun w h => ?_
  simp only [stay_v]
  refine st_el h hrd2.right.right ((i + 1) * 3) rfl _ (ecells_len _) (elv_at hi) ?_
  refine st_in (b := n0) (xs := [Value.bool false, .slice (some ⟨b, o, none⟩) xs.length c1]) (hn0 (h.perm (star_assoc _ _ _).symm)) rfl ?_
  refine store_all (b := bb) h (vs := ecells xs[i + 1]) rfl rfl (ecells_one _) fun w h => ?_
  refine dr_sl h fun w h _ => ?_
  rw [o_field, o_field]
  refine ld_in (b := ab) (v := .int .i64 xs[i].e.pg) h rfl ?_
  refine ld_in (b := bb) (v := .int .i64 xs[i + 1].e.pg) h rfl ?_
  rw [← hF0] at h
  have h := h.perm (show _ = chg C (c + 3) s * (pts ab (.cells (ecells xs[i]).toArray 67 (0, 0)) * (pts bb (.cells (ecells xs[i + 1]).toArray 67 (0, 0)) * (pts t1 (.cells [Value.bool false, .slice none 0 0].toArray 63 (0, 0)) * (bxN n0 false (.slice (some ⟨b, o, none⟩) xs.length c1) * (osl 67 3 (.slice (some ⟨b, o, none⟩) xs.length c1) xs.length (elv xs) * (pers φ * R)))))) by ac_rfl)
  have htp := two_part (K := K) hm hi hf hx hl hr hlr hres h k
  simp only [↓opsA, opsB, if_true, if_false, ↓reduceIte] at htp
  simp only [↓opsA, opsB, if_true, if_false, ↓reduceIte]
  exact htp
theorem mendL_spec : MendSpec mendL := by
  intro E w R K C c m s s' i lv xs n' φ hm hM hi hx hf hn h k
  refine c85 ?_
  unfold B85
  refine mend_head (K := K) hm hM hi hx hf hn h (fun n0 t1 lv w' ce ch a1 a2 a3 a4 h => ?_) k
  refine mend_mid hm hM hi hx hf hn a1 a2 a3 a4 h fun ab bb b o c1 j w e hj left right hl hr hlr hres h => ?_
  subst e
  exact mend_last (K := K) hm hj hf hx hl hr hlr hres h k
end Go.Proofs.YtfaeklinhchidaaGreat
