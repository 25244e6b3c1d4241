/-
  TopChained: the walk.
-/
import Derived.Test.YtmnaalpjhkkglaaGreatDoorChnA
set_option linter.all false
set_option maxRecDepth 100000
namespace Go.Proofs.YtmnaalpjhkkglaaGreatDoor
open Go Hold
variable {E : World0} {w : World} {H R : HP} {K : Value → World → Prop}
theorem Chained_spec (h : sat E w H) (hd : Dbt H) {v : Value} (l : List UInt8) (hl : Rds H v l.length (l.map bv)) (ml : l.length ≤ 140737488351232) (n8 : UInt8)
    (k : ∀ w', sat E w' H → K (.bool true) w') : Calls prog 3 #[v, bv n8] w (Ret K) := by
  obtain ⟨va, vc, rfl, hvc, hl, _⟩ := hl.shape h
  refine c3 ?_
  unfold B3
  refine New_spec h fun p w h => ?_
  refine buildSlice_sl (e := 5) (cs := #[bv 114]) h (fun w => by kernel_rfl) fun tb w h => ?_
  refine conv_const (b := tb) h fun tfr w h => ?_
  refine Sum_spec h (b := [114]) (rds_block (b := tb) (Nat.le_refl _)) (by simp) fun w h => ?_
  have hr := sha_length [114]
  generalize sha [114] = root at hr
  refine KNew_spec hr h fun q g a w h => ?_
  have t0 : isName [116] = true := by decide
  have t1 : isName [97, 117, 100, 105, 116] = true := by decide
  simp only [↓o_nil, ↓o_field, ↓o_add, ↓o_sub, ↓o_mul, ↓o_lss, ↓o_leq, ↓o_gtr, ↓o_geq, ↓o_not, ↓o_pick, ↓o_eqInt, ↓o_neInt, ↓o_eqBool, ↓o_neBool, ↓o_eqPtr, ↓o_nePtr, ↓o_eqPtr', ↓o_eqSl, ↓o_neSl, ↓o_eqStr, ↓o_neStr, ↓o_len, ↓o_lenS, ↓o_min, ↓o_max, ↓o_extract, ↓o_convInt, ↓cd_true, ↓cd_false, ↓gate_tt, ↓gate_ff, ↓gate_tf, ↓gate_ft, ↓gate_undef, ↓o_bind, ↓stay_v, ↓pop_cons, ↓fin_nil, Option.isNone_none, Option.isNone_some, Bool.not_true, Bool.not_false, Nat.zero_add, decide_true, decide_false, if_true, if_false, Bool.false_eq_true, ↓reduceIte]
  have h : sat E w (chI p newS (.slice none 0 0) (tI q root 0 g a H)) := by
    have h := h.perm (show _ = pts tb (.cells #[bv 114] 5 tfr) * chI p newS (.slice none 0 0) (tI q root 0 g a H) by unfold chI tI; ac_rfl)
    exact h.drop
  refine lp_nat (fun r σ w => ∃ (i : Nat) (s : Ch) (v1 : Value), σ = [.int .i64 (i : Int)] ∧ r = 20 - i ∧ i ≤ 20 ∧ Chn s i ∧ sat E w (chI p s v1 (tI q root 0 g a H))) 20
    ⟨0, newS, _, rfl, rfl, by omega, chn_new, h⟩ ?_
  clear h
  rintro r σ w again ⟨i, s, v1, rfl, rfl, hi, ch, h⟩ hag
  rw [pop_cons, fin_nil, two_tests]
  refine cd_dec (fun hlt => ?_) (fun hge => ?_)
  · obtain ⟨hlt1, hlt2⟩ := hlt
    have hi2 : i < l.length := by omega
    have h0 : sat E w H := by unfold chI tI at h; exact h.drop.drop.drop.drop.drop
    obtain ⟨b, o, c', e, hc', hrd⟩ := hl.opened h0 (by simp; omega)
    cases e
    rw [o_index (by omega) (by omega)]
    refine ld_rd h (show Rds (chI p s v1 (tI q root 0 g a H)) _ _ _ by unfold chI tI; exact hrd.right.right.right.right.right) i (by simp) (v := bv l[i]) (by simp [hi2]) ?_
    unfold bv
    rw [o_rem (by decide), o_add]
    obtain ⟨y, hy⟩ := u8_letter l[i]
    rw [hy]
    refine buildSlice_sl (e := 5) (cs := #[bv y]) h (fun w => by kernel_rfl) fun yb w h => ?_
    refine conv_bs (l := [y]) (rds_block (b := yb) (xs := [bv y]) (Nat.le_refl 1) E w h) ?_
    have h : sat E w (chI p s v1 (pts yb (.cells #[bv y] 5 (0, 0)) * tI q root 0 g a H)) := by unfold chI at h ⊢; exact h.perm (by ac_rfl)
    obtain ⟨ca, ce⟩ := chn_add (a := [y]) (b := [119]) ch (by omega) (by simp) (by simp)
    refine Add_spec (a := [y]) (b := [119]) ch.ok (by omega) (show Dbt (pts yb (.cells #[bv y] 5 (0, 0)) * tI q root 0 g a H) from hd.right.right.right.right) h fun v' w h => ?_
    rw [o_extract, o_extract]
    refine evt_in h fun b1 w h => ?_
    rw [ce, o_neInt, show (!decide ((0 : Int) = 0)) = false from rfl, cd_false, o_add, i64_of (by omega) (by omega)]
    refine hag (20 - (i + 1)) _ _ (by omega) ⟨i + 1, _, v', rfl, rfl, by omega, ca, ?_⟩
    have h := h.drop
    unfold chI at h ⊢
    exact (h.perm (show _ = pts yb (.cells #[bv y] 5 (0, 0)) * _ by ac_rfl)).drop
  clear hag hge
  refine Anchor_spec ch.ok (by omega) h fun w h => ?_
  have an := chn_anchor ch
  generalize anchorS s = s1 at an h
  clear ch
  refine Rows_spec an.ok (by omega) (show Dbt (tI q root 0 g a H) from hd.right.right.right) h fun u rows w hs h => ?_
  have hfew := an.ok.few
  have hlen : rows.length = 4 + s1.l.length := by
    have := congrArg List.length hs
    simp [rowsOf, heads] at this
    omega
  obtain ⟨ua, uc, rfl, huc, _, hpos⟩ := osl_shape h
  obtain ⟨ub, rfl⟩ := hpos (by omega)
  generalize hB : osl 41 2 (.slice (some ⟨ub, 0, none⟩) rows.length uc) rows.length (rvs rows) * (pers (colsP rows) * chI p s1 v1 H) = BB
  have h : sat E w (osl 41 2 (.slice none 0 0) 0 (rvs []) * (pers (colsP []) * tI q root 0 g a BB)) := by
    have h := h.perm (show _ = tI q root 0 g a BB by rw [← hB]; unfold chI tI; ac_rfl)
    have h : sat E w (pers (colsP []) * tI q root 0 g a BB) := h.mono fun I h' hp' => (pers_star_p _ _ _ _).2 ⟨fun x hx => by simp at hx, hp'⟩
    exact osl_nil h 41 2
  have hkey : (derive root [[116], [97, 117, 100, 105, 116], numText 1]).2 = 0 := by
    have e1 : numText 1 = [98, 49] := by unfold numText; rw [hexs_small (by decide) (by decide)]; rfl
    rw [e1]
    unfold derive
    rw [if_pos (by decide)]
  have hdB : Dbt BB := by rw [← hB]; unfold chI; exact hd.right.right.right.right
  refine lp_nat (fun r σ w => ∃ (i n : Nat) (back : Value) (bl : List RV), σ = [back, .int .i64 (i : Int)] ∧ r = rows.length - i ∧ i ≤ rows.length ∧ bl.length = i ∧ n ≤ 3 * i ∧ bl.map RV.said = (rows.map RV.said).take i ∧
      sat E w (osl 41 2 back i (rvs bl) * (pers (colsP bl) * tI q root n g a BB))) rows.length
    ⟨0, 0, _, [], rfl, rfl, by omega, rfl, by omega, by simp, h⟩ ?_
  clear h
  have hrB : Rds BB (.slice (some ⟨ub, 0, none⟩) rows.length uc) rows.length (rvs rows) := by rw [← hB]; exact Rds.osl.left
  have hcB : ∀ x ∈ rows, Rds BB x.v x.cols.length (x.cols.map tv) := fun x hx => by
    have hc : Rds (pers (colsP rows)) x.v x.cols.length (x.cols.map tv) := fun E w hs => (hs.whole).pers_get _ hx
    rw [← hB]; exact hc.left.right
  have hcell : ∀ {i f : Nat} {x : RV} {val : Value}, rows[i]? = some x → (rvc x)[f]? = some val → (rvs rows)[i * 2 + f]? = some val := fun hx hf => take_cell (rvs_at hx) hf
  rintro r σ w again ⟨i, n, back, bl, rfl, rfl, hi, hbl, hn, hsd, h⟩ hag
  rw [pop_cons, pop_cons, fin_nil, o_len, o_lss]
  refine cd_dec (fun hlt => ?_) (fun hge => ?_)
  · have hi2 : i < rows.length := by omega
    have hx : rows[i]? = some rows[i] := List.getElem?_eq_getElem hi2
    have hxm : rows[i] ∈ rows := List.getElem_mem hi2
    generalize rows[i] = x at hx hxm
    obtain ⟨hx3, hx1024⟩ := rows_small an (y := x.said) (by rw [← hs]; exact List.mem_map_of_mem hxm)
    obtain ⟨kx, vx, cx⟩ := x
    simp only [RV.said] at hx3 hx1024
    have hcx := hcB _ hxm
    simp only at hcx
    have hBB : ∀ {w : World} {X Y : HP}, sat E w (X * (Y * tI q root n g a BB)) → sat E w BB := fun h => by unfold tI at h; exact h.drop.drop.drop.drop.drop
    obtain ⟨xa, xc, rfl, hxc, hcx, _⟩ := hcx.shape (hBB h)
    rw [o_index (by omega) (by omega), Int.toNat_natCast]
    simp only [↓o_nil, ↓o_field, ↓o_add, ↓o_sub, ↓o_mul, ↓o_lss, ↓o_leq, ↓o_gtr, ↓o_geq, ↓o_not, ↓o_pick, ↓o_eqInt, ↓o_neInt, ↓o_eqBool, ↓o_neBool, ↓o_eqPtr, ↓o_nePtr, ↓o_eqPtr', ↓o_eqSl, ↓o_neSl, ↓o_eqStr, ↓o_neStr, ↓o_len, ↓o_lenS, ↓o_min, ↓o_max, ↓o_extract, ↓o_convInt, ↓cd_true, ↓cd_false, ↓gate_tt, ↓gate_ff, ↓gate_tf, ↓gate_ft, ↓gate_undef, ↓o_bind, ↓stay_v, ↓pop_cons, ↓fin_nil, Option.isNone_none, Option.isNone_some, Bool.not_true, Bool.not_false, Nat.zero_add, decide_true, decide_false, if_true, if_false, Bool.false_eq_true, ↓reduceIte]
    refine ld_rd h (show Rds (osl 41 2 back i (rvs bl) * (pers (colsP bl) * tI q root n g a BB)) _ _ _ from hrB.right.right.right.right.right) (i * 2 + 0) (by omega) (hcell hx rfl) ?_
    refine pvv_of (v := .agg (rvc ⟨kx, .slice none 0 0, []⟩).toArray) (fun w => by kernel_rfl) ?_
    refine alloc_sl h fun xb w h => ?_
    have h : sat E w (pts xb (.cells [Value.string ⟨#[]⟩, .slice none 0 0].toArray 41 (0, 0)) * (osl 41 2 back i (rvs bl) * (pers (colsP bl) * tI q root n g a BB))) := h
    refine store_all (b := xb) h (xs := [Value.string ⟨#[]⟩, .slice none 0 0]) (vs := rvc ⟨kx, .slice none 0 0, []⟩) rfl rfl (by intro z hz; simp [rvc] at hz; rcases hz with rfl | rfl <;> rfl) fun w h => ?_
    refine lp_nat (fun r σ w => ∃ (j m : Nat) (vv : Value), σ = [.int .i64 (j : Int)] ∧ r = cx.length - j ∧ j ≤ cx.length ∧ m ≤ 3 * i + j ∧
      sat E w (osl 9 1 vv j ((cx.take j).map tv) * (pts xb (.cells (rvc ⟨kx, vv, cx.take j⟩).toArray 41 (0, 0)) * (osl 41 2 back i (rvs bl) * (pers (colsP bl) * tI q root m g a BB))))) cx.length
      ⟨0, n, _, rfl, rfl, by omega, by omega, osl_nil h 9 1⟩ ?_
    clear h
    rintro r σ w again2 ⟨j, m, vv, rfl, rfl, hj, hm, h⟩ hag2
    rw [pop_cons, fin_nil, o_index (by omega) (by omega), Int.toNat_natCast]
    simp only [↓o_nil, ↓o_field, ↓o_add, ↓o_sub, ↓o_mul, ↓o_lss, ↓o_leq, ↓o_gtr, ↓o_geq, ↓o_not, ↓o_pick, ↓o_eqInt, ↓o_neInt, ↓o_eqBool, ↓o_neBool, ↓o_eqPtr, ↓o_nePtr, ↓o_eqPtr', ↓o_eqSl, ↓o_neSl, ↓o_eqStr, ↓o_neStr, ↓o_len, ↓o_lenS, ↓o_min, ↓o_max, ↓o_extract, ↓o_convInt, ↓cd_true, ↓cd_false, ↓gate_tt, ↓gate_ff, ↓gate_tf, ↓gate_ft, ↓gate_undef, ↓o_bind, ↓stay_v, ↓pop_cons, ↓fin_nil, Option.isNone_none, Option.isNone_some, Bool.not_true, Bool.not_false, Nat.zero_add, decide_true, decide_false, if_true, if_false, Bool.false_eq_true, ↓reduceIte]
    have hrI : ∀ {X Y Z V : HP}, Rds (X * (Y * (Z * (V * tI q root m g a BB)))) (.slice (some ⟨ub, 0, none⟩) rows.length uc) rows.length (rvs rows) := hrB.right.right.right.right.right.right.right
    have hcI : ∀ {X Y Z V : HP}, Rds (X * (Y * (Z * (V * tI q root m g a BB)))) (.slice xa cx.length xc) cx.length (cx.map tv) := hcx.right.right.right.right.right.right.right
    refine ld_rd h hrI (i * 2 + 1) (by omega) (hcell hx rfl) ?_
    simp only [↓o_nil, ↓o_field, ↓o_add, ↓o_sub, ↓o_mul, ↓o_lss, ↓o_leq, ↓o_gtr, ↓o_geq, ↓o_not, ↓o_pick, ↓o_eqInt, ↓o_neInt, ↓o_eqBool, ↓o_neBool, ↓o_eqPtr, ↓o_nePtr, ↓o_eqPtr', ↓o_eqSl, ↓o_neSl, ↓o_eqStr, ↓o_neStr, ↓o_len, ↓o_lenS, ↓o_min, ↓o_max, ↓o_extract, ↓o_convInt, ↓cd_true, ↓cd_false, ↓gate_tt, ↓gate_ff, ↓gate_tf, ↓gate_ft, ↓gate_undef, ↓o_bind, ↓stay_v, ↓pop_cons, ↓fin_nil, Option.isNone_none, Option.isNone_some, Bool.not_true, Bool.not_false, Nat.zero_add, decide_true, decide_false, if_true, if_false, Bool.false_eq_true, ↓reduceIte]
    refine cd_dec (fun hlt2 => ?_) (fun hge2 => ?_)
    · have hj2 : j < cx.length := by omega
      have hc : cx[j]? = some cx[j] := List.getElem?_eq_getElem hj2
      have hcm : cx[j] ∈ cx := List.getElem_mem hj2
      have htk : cx.take (j + 1) = cx.take j ++ [cx[j]] := List.take_succ_eq_append_getElem hj2
      generalize cx[j] = c at hc hcm htk
      have hc10 := hx1024 c hcm
      rw [o_index (by omega) (by omega), Int.toNat_natCast]
      simp only [↓o_nil, ↓o_field, ↓o_add, ↓o_sub, ↓o_mul, ↓o_lss, ↓o_leq, ↓o_gtr, ↓o_geq, ↓o_not, ↓o_pick, ↓o_eqInt, ↓o_neInt, ↓o_eqBool, ↓o_neBool, ↓o_eqPtr, ↓o_nePtr, ↓o_eqPtr', ↓o_eqSl, ↓o_neSl, ↓o_eqStr, ↓o_neStr, ↓o_len, ↓o_lenS, ↓o_min, ↓o_max, ↓o_extract, ↓o_convInt, ↓cd_true, ↓cd_false, ↓gate_tt, ↓gate_ff, ↓gate_tf, ↓gate_ft, ↓gate_undef, ↓o_bind, ↓stay_v, ↓pop_cons, ↓fin_nil, Option.isNone_none, Option.isNone_some, Bool.not_true, Bool.not_false, Nat.zero_add, decide_true, decide_false, if_true, if_false, Bool.false_eq_true, ↓reduceIte]
      refine ld_rd h hrI (i * 2 + 1) (by omega) (hcell hx rfl) ?_
      obtain ⟨yb, yo, _, ey, _, hcv⟩ := hcI.opened h (by simp; omega)
      cases ey
      rw [o_index (by omega) (by omega), Int.toNat_natCast]
      refine ld_rd h hcv j (by omega) (v := tv c) (by rw [List.getElem?_map, hc]; rfl) ?_
      refine conv_sb h fun cb cc sp cfr w h hcc => ?_
      have h := h.perm (show _ = tI q root m g a (pts cb (.cells (c.map bv ++ sp).toArray 5 cfr) * (osl 9 1 vv j ((cx.take j).map tv) * (pts xb (.cells (rvc ⟨kx, vv, cx.take j⟩).toArray 41 (0, 0)) * (osl 41 2 back i (rvs bl) * (pers (colsP bl) * BB))))) by unfold tI; ac_rfl)
      have hdR : Dbt (pts cb (.cells (c.map bv ++ sp).toArray 5 cfr) * (osl 9 1 vv j ((cx.take j).map tv) * (pts xb (.cells (rvc ⟨kx, vv, cx.take j⟩).toArray 41 (0, 0)) * (osl 41 2 back i (rvs bl) * (pers (colsP bl) * BB))))) := hdB.right.right.right.right.right
      refine TSeal_spec hr (n := m) (by omega) (tn := [116]) (nm := [97, 117, 100, 105, 116]) t0 t1 (by decide) (by decide) hdR (l := c) hc10 (rds_row (b := cb) (xs := c.map bv) (sp := sp) hcc) h fun sv w h => ?_
      rw [o_extract, o_extract]
      generalize hkk : (derive root [[116], [97, 117, 100, 105, 116], numText 1]).1 = kk at h
      have hsl := sealB_length kk m c
      have hop : openB (derive root [[116], [97, 117, 100, 105, 116], numText 1]).1 (sealB kk m c) = (c, m, 0) := by rw [hkk]; exact open_seal (by omega) hc10
      generalize sealB kk m c = sl at h hsl hop
      rw [← hsl] at h
      have h := h.perm (show _ = tI q root (m + 1) g a (osl 5 1 sv (1 + sl.length) ((1 :: sl).map bv) * (pts cb (.cells (c.map bv ++ sp).toArray 5 cfr) * (osl 9 1 vv j ((cx.take j).map tv) * (pts xb (.cells (rvc ⟨kx, vv, cx.take j⟩).toArray 41 (0, 0)) * (osl 41 2 back i (rvs bl) * (pers (colsP bl) * BB)))))) by unfold tI; ac_rfl)
      refine TOpen_spec hr (n := m + 1) (by omega) (tn := [116]) (nm := [97, 117, 100, 105, 116]) t0 t1 (by decide) (by decide) hdR.right hkey (by omega) hop Rds.osl.left h fun ov w h => ?_
      simp only [show decide ((0 : Int) = 0) = true from rfl, ↓o_nil, ↓o_field, ↓o_add, ↓o_sub, ↓o_mul, ↓o_lss, ↓o_leq, ↓o_gtr, ↓o_geq, ↓o_not, ↓o_pick, ↓o_eqInt, ↓o_neInt, ↓o_eqBool, ↓o_neBool, ↓o_eqPtr, ↓o_nePtr, ↓o_eqPtr', ↓o_eqSl, ↓o_neSl, ↓o_eqStr, ↓o_neStr, ↓o_len, ↓o_lenS, ↓o_min, ↓o_max, ↓o_extract, ↓o_convInt, ↓cd_true, ↓cd_false, ↓gate_tt, ↓gate_ff, ↓gate_tf, ↓gate_ft, ↓gate_undef, ↓o_bind, ↓stay_v, ↓pop_cons, ↓fin_nil, Option.isNone_none, Option.isNone_some, Bool.not_true, Bool.not_false, Nat.zero_add, decide_true, decide_false, if_true, if_false, Bool.false_eq_true, ↓reduceIte]
      refine ld_in (b := xb) (v := vv) h rfl ?_
      refine conv_bs (l := c) ((show Rds (osl 5 1 ov c.length (c.map bv) * _) _ _ _ from Rds.osl.left) E w h) ?_
      have etv : (.string ⟨c.toArray⟩ : Value) = tv c := rfl
      rw [etv]
      refine buildSlice_sl (e := 9) (cs := #[tv c]) h (fun w => by kernel_rfl) fun bb w h => ?_
      refine append_sl (v := vv) h [tv c] (k' := 1) rfl (.inr ⟨bb, 0, _, _, _, rfl, h.pts_get, fun j v hj => by simpa using hj⟩) (by intro z hz; simp at hz; subst hz; rfl) (by omega) (by omega) fun v' w h => ?_
      have hone : v'.oneCell' = true := by obtain ⟨_, _, rfl, _⟩ := osl_shape h; rfl
      try simp only [↓o_nil, ↓o_field, ↓o_add, ↓o_sub, ↓o_mul, ↓o_lss, ↓o_leq, ↓o_gtr, ↓o_geq, ↓o_not, ↓o_pick, ↓o_eqInt, ↓o_neInt, ↓o_eqBool, ↓o_neBool, ↓o_eqPtr, ↓o_nePtr, ↓o_eqPtr', ↓o_eqSl, ↓o_neSl, ↓o_eqStr, ↓o_neStr, ↓o_len, ↓o_lenS, ↓o_min, ↓o_max, ↓o_extract, ↓o_convInt, ↓cd_true, ↓cd_false, ↓gate_tt, ↓gate_ff, ↓gate_tf, ↓gate_ft, ↓gate_undef, ↓o_bind, ↓stay_v, ↓pop_cons, ↓fin_nil, Option.isNone_none, Option.isNone_some, Bool.not_true, Bool.not_false, Nat.zero_add, decide_true, decide_false, if_true, if_false, Bool.false_eq_true, ↓reduceIte]
      refine store_sl (b := xb) h hone (by simp [rvc]) fun w h => ?_
      try simp only [↓o_nil, ↓o_field, ↓o_add, ↓o_sub, ↓o_mul, ↓o_lss, ↓o_leq, ↓o_gtr, ↓o_geq, ↓o_not, ↓o_pick, ↓o_eqInt, ↓o_neInt, ↓o_eqBool, ↓o_neBool, ↓o_eqPtr, ↓o_nePtr, ↓o_eqPtr', ↓o_eqSl, ↓o_neSl, ↓o_eqStr, ↓o_neStr, ↓o_len, ↓o_lenS, ↓o_min, ↓o_max, ↓o_extract, ↓o_convInt, ↓cd_true, ↓cd_false, ↓gate_tt, ↓gate_ff, ↓gate_tf, ↓gate_ft, ↓gate_undef, ↓o_bind, ↓stay_v, ↓pop_cons, ↓fin_nil, Option.isNone_none, Option.isNone_some, Bool.not_true, Bool.not_false, Nat.zero_add, decide_true, decide_false, if_true, if_false, Bool.false_eq_true, ↓reduceIte]
      rw [i64_of (by omega) (by omega)]
      refine hag2 (cx.length - (j + 1)) _ _ (by omega) ⟨j + 1, m + 1, v', rfl, rfl, by omega, by omega, ?_⟩
      rw [htk, List.map_append, List.map_singleton]
      have h := (h.lose bb)
      have h := h.perm (show _ = osl 5 1 ov c.length (c.map bv) * (osl 5 1 sv (1 + sl.length) ((1 :: sl).map bv) * (pts cb (.cells (c.map bv ++ sp).toArray 5 cfr) * (osl 9 1 v' (j + 1) ((cx.take j).map tv ++ [tv c]) * (pts xb (.cells (rvc ⟨kx, v', cx.take j ++ [c]⟩).toArray 41 (0, 0)) * (osl 41 2 back i (rvs bl) * (pers (colsP bl) * tI q root (m + 1) g a BB)))))) by unfold tI; simp only [rvc, List.set]; ac_rfl)
      exact h.drop.drop.drop
    · have hj2 : j = cx.length := by omega
      subst hj2
      rw [List.take_length] at h
      refine ld_agg (b := xb) h rfl ?_
      have h := osl_freeze h
      have h := h.pers_mono (ψ := colsP [⟨kx, vv, cx⟩]) fun I hI z hz => by
        rw [List.mem_singleton.1 hz]
        exact hI
      refine buildSlice_sl (e := 41) (cs := (rvc ⟨kx, vv, cx⟩).toArray) h (fun w => by kernel_rfl) fun b5 w h => ?_
      have hvv : vv.oneCell' = true := by
        obtain ⟨_, _, rfl, _⟩ : RdS (hp w) vv cx.length (cx.map tv) := (h.perm (star_left_comm _ _ _)).pers_get ⟨kx, vv, cx⟩ (by simp)
        rfl
      refine append_sl (v := back) h (rvc ⟨kx, vv, cx⟩) (k' := 1) rfl (.inr ⟨b5, 0, _, _, _, rfl, h.pts_get, fun j v hj => by simpa using hj⟩) (by intro z hz; simp [rvc] at hz; rcases hz with rfl | rfl; exact rfl; exact hvv) (by omega) (by omega) fun v' w h => ?_
      try simp only [↓o_nil, ↓o_field, ↓o_add, ↓o_sub, ↓o_mul, ↓o_lss, ↓o_leq, ↓o_gtr, ↓o_geq, ↓o_not, ↓o_pick, ↓o_eqInt, ↓o_neInt, ↓o_eqBool, ↓o_neBool, ↓o_eqPtr, ↓o_nePtr, ↓o_eqPtr', ↓o_eqSl, ↓o_neSl, ↓o_eqStr, ↓o_neStr, ↓o_len, ↓o_lenS, ↓o_min, ↓o_max, ↓o_extract, ↓o_convInt, ↓cd_true, ↓cd_false, ↓gate_tt, ↓gate_ff, ↓gate_tf, ↓gate_ft, ↓gate_undef, ↓o_bind, ↓stay_v, ↓pop_cons, ↓fin_nil, Option.isNone_none, Option.isNone_some, Bool.not_true, Bool.not_false, Nat.zero_add, decide_true, decide_false, if_true, if_false, Bool.false_eq_true, ↓reduceIte]
      rw [i64_of (by omega) (by omega)]
      refine hag (rows.length - (i + 1)) _ _ (by omega) ⟨i + 1, m, v', bl ++ [⟨kx, vv, cx⟩], rfl, rfl, by omega, by simp [hbl], by omega, ?_, ?_⟩
      · rw [List.map_append, hsd, List.take_succ_eq_append_getElem (by simpa using hi2)]
        congr 1
        obtain ⟨hh, he⟩ := List.getElem?_eq_some_iff.1 hx
        simp [he, RV.said]
      · have e9 : rvs bl ++ rvc ⟨kx, vv, cx⟩ = rvs (bl ++ [⟨kx, vv, cx⟩]) := by rw [rvs_append]; simp [rvs]
        rw [e9] at h
        have h := (h.lose b5).lose xb
        have h := h.perm (show _ = pers (colsP [⟨kx, vv, cx⟩]) * (pers (colsP bl) * (osl 41 2 v' (i + 1) (rvs (bl ++ [⟨kx, vv, cx⟩])) * tI q root m g a BB)) by unfold tI; ac_rfl)
        rw [← star_assoc, pers_and] at h
        have h := h.pers_mono (ψ := colsP (bl ++ [⟨kx, vv, cx⟩])) fun I hI => colsP_append hI.2 hI.1
        exact h.perm (star_left_comm _ _ _)
  · have hi2 : i = rows.length := by omega
    clear hag hcell hcB hrB
    subst hi2
    rw [List.take_of_length_le (by simp), hs] at hsd
    clear hge hs
    rw [← hbl] at h
    have hdT : Dbt (tI q root n g a BB) := hdB.right.right.right
    refine Load_spec an.ok (by omega) an.sm an.rn hdT hsd h fun d v3 w h => ?_
    simp only [show decide ((0 : Int) = 0) = true from rfl, ↓o_nil, ↓o_field, ↓o_add, ↓o_sub, ↓o_mul, ↓o_lss, ↓o_leq, ↓o_gtr, ↓o_geq, ↓o_not, ↓o_pick, ↓o_eqInt, ↓o_neInt, ↓o_eqBool, ↓o_neBool, ↓o_eqPtr, ↓o_nePtr, ↓o_eqPtr', ↓o_eqSl, ↓o_neSl, ↓o_eqStr, ↓o_neStr, ↓o_len, ↓o_lenS, ↓o_min, ↓o_max, ↓o_extract, ↓o_convInt, ↓cd_true, ↓cd_false, ↓gate_tt, ↓gate_ff, ↓gate_tf, ↓gate_ft, ↓gate_undef, ↓o_bind, ↓stay_v, ↓pop_cons, ↓fin_nil, Option.isNone_none, Option.isNone_some, Bool.not_true, Bool.not_false, Nat.zero_add, decide_true, decide_false, if_true, if_false, Bool.false_eq_true, ↓reduceIte]
    have hdO : Dbt (osl 41 2 back bl.length (rvs bl) * (pers (colsP bl) * tI q root n g a BB)) := hdT.right.right
    refine Verify_spec an.ok (by omega) hdO h fun w h => ?_
    rw [an.rt.ok]
    simp only [show decide ((0 : Int) = 0) = true from rfl, ↓o_nil, ↓o_field, ↓o_add, ↓o_sub, ↓o_mul, ↓o_lss, ↓o_leq, ↓o_gtr, ↓o_geq, ↓o_not, ↓o_pick, ↓o_eqInt, ↓o_neInt, ↓o_eqBool, ↓o_neBool, ↓o_eqPtr, ↓o_nePtr, ↓o_eqPtr', ↓o_eqSl, ↓o_neSl, ↓o_eqStr, ↓o_neStr, ↓o_len, ↓o_lenS, ↓o_min, ↓o_max, ↓o_extract, ↓o_convInt, ↓cd_true, ↓cd_false, ↓gate_tt, ↓gate_ff, ↓gate_tf, ↓gate_ft, ↓gate_undef, ↓o_bind, ↓stay_v, ↓pop_cons, ↓fin_nil, Option.isNone_none, Option.isNone_some, Bool.not_true, Bool.not_false, Nat.zero_add, decide_true, decide_false, if_true, if_false, Bool.false_eq_true, ↓reduceIte]
    refine Head_spec (p := d) an.ok h fun w h => ?_
    subst hB
    refine Head_spec (p := p) an.ok h fun w h => ?_
    rw [ne28 an.ok.h an.ok.h, show (s1.hd == s1.hd) = true by simp]
    simp only [↓o_nil, ↓o_field, ↓o_add, ↓o_sub, ↓o_mul, ↓o_lss, ↓o_leq, ↓o_gtr, ↓o_geq, ↓o_not, ↓o_pick, ↓o_eqInt, ↓o_neInt, ↓o_eqBool, ↓o_neBool, ↓o_eqPtr, ↓o_nePtr, ↓o_eqPtr', ↓o_eqSl, ↓o_neSl, ↓o_eqStr, ↓o_neStr, ↓o_len, ↓o_lenS, ↓o_min, ↓o_max, ↓o_extract, ↓o_convInt, ↓cd_true, ↓cd_false, ↓gate_tt, ↓gate_ff, ↓gate_tf, ↓gate_ft, ↓gate_undef, ↓o_bind, ↓stay_v, ↓pop_cons, ↓fin_nil, Option.isNone_none, Option.isNone_some, Bool.not_true, Bool.not_false, Nat.zero_add, decide_true, decide_false, if_true, if_false, Bool.false_eq_true, ↓reduceIte]
    have hn8 := n8.toNat_lt
    have hone : ∀ x ∈ rvs bl, x.oneCell' = true := rvs_one (J := hp w) (by unfold chI at h; exact h.drop.drop.drop.pers_get)
    obtain ⟨ba, bc, rfl, hbc, _, hbpos⟩ := osl_shape (show sat E w (osl 41 2 back bl.length (rvs bl) * (chI d s1 v3 (pers (colsP bl) * tI q root n g a (osl 41 2 (.slice (some ⟨ub, 0, none⟩) rows.length uc) rows.length (rvs rows) * (pers (colsP rows) * chI p s1 v1 H))))) by unfold chI at h ⊢; exact h.perm (by ac_rfl))
    obtain ⟨bb, rfl⟩ := hbpos (by omega)
    unfold bv
    simp only [↓o_nil, ↓o_field, ↓o_add, ↓o_sub, ↓o_mul, ↓o_lss, ↓o_leq, ↓o_gtr, ↓o_geq, ↓o_not, ↓o_pick, ↓o_eqInt, ↓o_neInt, ↓o_eqBool, ↓o_neBool, ↓o_eqPtr, ↓o_nePtr, ↓o_eqPtr', ↓o_eqSl, ↓o_neSl, ↓o_eqStr, ↓o_neStr, ↓o_len, ↓o_lenS, ↓o_min, ↓o_max, ↓o_extract, ↓o_convInt, ↓cd_true, ↓cd_false, ↓gate_tt, ↓gate_ff, ↓gate_tf, ↓gate_ft, ↓gate_undef, ↓o_bind, ↓stay_v, ↓pop_cons, ↓fin_nil, Option.isNone_none, Option.isNone_some, Bool.not_true, Bool.not_false, Nat.zero_add, decide_true, decide_false, if_true, if_false, Bool.false_eq_true, ↓reduceIte]
    rw [i64_of (n := (n8.toNat : Int)) (by omega) (by omega), o_rem (by omega)]
    have hmod : ((n8.toNat : Nat) : Int).tmod (bl.length : Int) = ((n8.toNat % bl.length : Nat) : Int) := by
      rw [Int.tmod_eq_emod_of_nonneg (by omega)]; omega
    rw [hmod]
    have hout : n8.toNat % bl.length < bl.length := Nat.mod_lt _ (by omega)
    generalize n8.toNat % bl.length = out at hout
    refine dr_sl h fun w h _ => ?_
    rw [o_slice_h (by omega) (by omega), o_add, i64_of (by omega) (by omega), show ((out : Nat) : Int) + 1 = ((out + 1 : Nat) : Int) by omega, o_slice_l (by omega) (by omega), Int.toNat_natCast, Int.toNat_natCast]
    have h := h.perm (show _ = chI d s1 v3 (pers (colsP bl) * tI q root n g a (osl 41 2 (.slice (some ⟨ub, 0, none⟩) rows.length uc) rows.length (rvs rows) * (pers (colsP rows) * chI p s1 v1 H))) * (osl 41 2 (.slice (some ⟨bb, 0, none⟩) bl.length bc) bl.length (rvs bl) * emp) by rw [star_emp]; unfold chI; ac_rfl)
    have h := osl_nil h 41 2
    have hw0 := win_rows (o := 0) (m := out) (h.perm (star_assoc _ _ _).symm) rfl
    rw [List.drop_zero, rvs_take (by omega)] at hw0
    have hone1 : ∀ x ∈ rvs (bl.take out), x.oneCell' = true := fun x hx => hone x (by rw [← rvs_take (by omega)] at hx; exact List.mem_of_mem_take hx)
    refine append_sl (v := .slice none 0 0) h (rvs (bl.take out)) (k' := out) (by rw [rvs_length, List.length_take]; omega) hw0 hone1 (by omega) (by omega) fun va2 w h => ?_
    rw [Nat.zero_add, List.nil_append] at h
    have hw1 := win_rows (o := out + 1) (m := bl.length - (out + 1)) (h.perm (star_assoc _ _ _).symm) rfl
    rw [List.take_of_length_le (by rw [rvs_length, List.length_drop]; omega)] at hw1
    have hone2 : ∀ x ∈ rvs (bl.drop (out + 1)), x.oneCell' = true := fun x hx => hone x (by
      have e3 := congrArg rvs (List.take_append_drop (out + 1) bl)
      rw [rvs_append] at e3
      rw [← e3]
      exact List.mem_append_right _ hx)
    refine append_sl (v := va2) h (rvs (bl.drop (out + 1))) (k' := bl.length - (out + 1)) (by rw [rvs_length, List.length_drop]) hw1 hone2 (by omega) (by omega) fun va3 w h => ?_
    rw [← rvs_append] at h
    have hlc := less_case (out := out) an hsd hout
    have hll : (bl.take out ++ bl.drop (out + 1)).length = out + (bl.length - (out + 1)) := by rw [List.length_append, List.length_take, List.length_drop]; omega
    have hsub : ∀ x ∈ bl.take out ++ bl.drop (out + 1), x ∈ bl := fun x hx => by
      rcases List.mem_append.1 hx with hx | hx
      · exact List.mem_of_mem_take hx
      · exact List.mem_of_mem_drop hx
    generalize bl.take out ++ bl.drop (out + 1) = less at h hlc hll hsub
    rw [← hll] at h
    have h : sat E w (osl 41 2 va3 less.length (rvs less) * (chI d s1 v3 (pers (colsP bl) * tI q root n g a (osl 41 2 (.slice (some ⟨ub, 0, none⟩) rows.length uc) rows.length (rvs rows) * (pers (colsP rows) * chI p s1 v1 H))) * (osl 41 2 (.slice (some ⟨bb, 0, none⟩) bl.length bc) bl.length (rvs bl) * emp))) := h
    have h := h.perm (show _ = pers (colsP bl) * (osl 41 2 va3 less.length (rvs less) * (osl 41 2 (.slice (some ⟨bb, 0, none⟩) bl.length bc) bl.length (rvs bl) * (chI d s1 v3 (tI q root n g a (osl 41 2 (.slice (some ⟨ub, 0, none⟩) rows.length uc) rows.length (rvs rows) * (pers (colsP rows) * chI p s1 v1 H)))))) by rw [star_emp]; unfold chI tI; ac_rfl)
    have h := h.pers_new (ψ := colsP less) fun I hI x hx => hI x (hsub x hx)
    have h := h.perm (show _ = osl 41 2 va3 less.length (rvs less) * (pers (colsP less) * (pers (colsP bl) * (osl 41 2 (.slice (some ⟨bb, 0, none⟩) bl.length bc) bl.length (rvs bl) * (chI d s1 v3 (tI q root n g a (osl 41 2 (.slice (some ⟨ub, 0, none⟩) rows.length uc) rows.length (rvs rows) * (pers (colsP rows) * chI p s1 v1 H))))))) by ac_rfl)
    refine BadLoad_spec an.ok (by omega) an.sm (by unfold chI tI; exact hd.right.right.right.right.right.right.right.right.right.right.right) (by omega) hlc h fun w h => ?_
    try simp only [show decide ((3 : Int) = 3) = true from rfl, ↓o_nil, ↓o_field, ↓o_add, ↓o_sub, ↓o_mul, ↓o_lss, ↓o_leq, ↓o_gtr, ↓o_geq, ↓o_not, ↓o_pick, ↓o_eqInt, ↓o_neInt, ↓o_eqBool, ↓o_neBool, ↓o_eqPtr, ↓o_nePtr, ↓o_eqPtr', ↓o_eqSl, ↓o_neSl, ↓o_eqStr, ↓o_neStr, ↓o_len, ↓o_lenS, ↓o_min, ↓o_max, ↓o_extract, ↓o_convInt, ↓cd_true, ↓cd_false, ↓gate_tt, ↓gate_ff, ↓gate_tf, ↓gate_ft, ↓gate_undef, ↓o_bind, ↓stay_v, ↓pop_cons, ↓fin_nil, Option.isNone_none, Option.isNone_some, Bool.not_true, Bool.not_false, Nat.zero_add, decide_true, decide_false, if_true, if_false, Bool.false_eq_true, ↓reduceIte]
    refine k w ?_
    unfold chI tI at h
    exact h.drop.drop.drop.drop.drop.drop.drop.drop.drop.drop.drop.drop.drop
end Go.Proofs.YtmnaalpjhkkglaaGreatDoor
