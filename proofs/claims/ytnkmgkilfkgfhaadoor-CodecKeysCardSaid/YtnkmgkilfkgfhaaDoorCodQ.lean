/-
  Parts of keys, the code's.
-/
import Derived.Test.YtnkmgkilfkgfhaaDoorCodP
set_option linter.all false
set_option maxRecDepth 10000
namespace Go.Proofs.YtnkmgkilfkgfhaaDoor
open Go Hold
variable {E : World0} {w : World} {H R : HP} {K : Value → World → Prop}
theorem Split_spec {x : Nat} {v0 : Value} {b : List UInt8} (hbl : b.length ≤ 64) {y : Value} (B : HP) (G : List (List UInt8) → HP) (Z : HP) (hB : ∀ ps, Rds (G ps) v0 b.length (b.map bv))
    (h : sat E w (pts x (.cells [v0].toArray 23 (0, 0)) * G []))
    (hy : ∀ (F : HP) (ps : List (List UInt8)) (p : List UInt8), ps.length + 1 ≤ 64 → p.length ≤ 64 → ∀ (w : World) (K' : Value → World → Prop), sat E w (F * G ps) → (∀ w', sat E w' (F * G (ps ++ [p])) → K' (.bool true) w') → ef prog (oCall y #[tv p, .bool true]) w K')
    (hz : ∀ (F : HP) (ps : List (List UInt8)) (w : World) (K' : Value → World → Prop), sat E w (F * G ps) → (∀ w', sat E w' (F * Z) → K' (.bool false) w') → ef prog (oCall y #[tv [], .bool false]) w K')
    (k : ∀ w', sat E w' (match dec b [] with | some ps => G ps | none => Z) → K (.tuple #[]) w') : Calls prog 40 #[y, .pointer (some ⟨x, 0, none⟩)] w (Ret K) := by
  refine c40 ?_
  unfold B40
  refine lp_nat (fun q σ w => ∃ (v kv : Value) (r p : List UInt8) (ds : List (List UInt8)) (lo : Nat), σ = [v] ∧ q = r.length ∧ r = b.drop lo ∧ dec b [] = (dec r p).map (ds ++ ·) ∧ p.length + r.length ≤ 64 ∧ ds.length + r.length ≤ 64 ∧
      (∀ ps, Rds (G ps) kv r.length (r.map bv)) ∧ sat E w (osl 5 1 v p.length (p.map bv) * (pts x (.cells [kv].toArray 23 (0, 0)) * G ds))) b.length
    ⟨_, v0, b, [], [], 0, rfl, rfl, by simp, by cases dec b [] <;> simp, by simp; omega, by simp; omega, hB, osl_nil h 5 1⟩ ?_
  clear h
  rintro q σ w again ⟨v, kv, r, p, ds, lo, rfl, rfl, hr, hdec, hpl, hdl, hkv, h⟩ hag
  obtain ⟨ka, kc, rfl, hkc, hkv1, _⟩ := (hkv ds).shape h.drop.drop
  rw [pop_cons, fin_nil]
  refine ld_in (b := x) (v := .slice ka r.length kc) h rfl ?_
  rw [o_len, o_gtr]
  refine cd_dec (fun hpos => ?_) (fun hz0 => ?_)
  · refine ld_in (b := x) (v := .slice ka r.length kc) h rfl ?_
    refine IndexByte_spec h (hkv1.right.right) ?_
    have stop : ∀ w : World, dec r p = none → sat E w (osl 5 1 v p.length (p.map bv) * (pts x (.cells [Value.slice ka r.length kc].toArray 23 (0, 0)) * G ds)) → ef prog (oCall y #[(.string ⟨#[]⟩), (.bool false)]) w fun t_14 w => K (.tuple #[]) w := by
      intro w hn h
      rw [hn] at hdec
      rw [← star_assoc] at h
      refine hz _ ds w _ h fun w h => k w ?_
      rw [hdec]
      exact h.drop
    by_cases hneg : Lib.indexByte r 0 < 0
    · have hn := Lib.indexByte_none (l := r) (c := 0) (by have := Lib.indexByte_ge r 0; omega)
      have hnz : ∀ c ∈ r, c ≠ 0 := by
        intro c hc
        obtain ⟨i, hi⟩ := List.getElem?_of_mem hc
        intro h0
        exact hn i (by rw [hi, h0])
      rw [o_lss]
      simp only [hneg, ↓o_pick, ↓gate_tt, ↓gate_ff, ↓gate_tf, ↓gate_ft, ↓gate_undef, decide_true, if_true, ↓cd_true]
      exact stop w (dec_none r hnz (by rintro rfl; simp at hpos)) h
    · obtain ⟨o, ho⟩ := Int.eq_ofNat_of_zero_le (show 0 ≤ Lib.indexByte r 0 by omega)
      obtain ⟨h0, hb0⟩ := Lib.indexByte_some ho
      have hol := (List.getElem?_eq_some_iff.1 h0).1
      rw [ho, o_lss]
      have t1 : decide ((o : Int) < 0) = false := decide_eq_false (by omega)
      have t2 : IntKind.i64.wrap ((o : Int) + 1) = ((o + 1 : Nat) : Int) := by rw [i64_of (by omega) (by omega)]; omega
      have hnz : ∀ c ∈ r.take o, c ≠ 0 := by
        intro c hc
        obtain ⟨i, hi⟩ := List.getElem?_of_mem hc
        rw [List.getElem?_take] at hi
        split at hi
        · rename_i hio
          intro hc0
          exact hb0 i hio (by rw [hi, hc0])
        · cases hi
      have hsplit : r = r.take o ++ (0 :: r.drop (o + 1)) := by
        have e1 : r.drop o = 0 :: r.drop (o + 1) := by rw [List.drop_eq_getElem_cons hol, (List.getElem?_eq_some_iff.1 h0).2]
        rw [← e1, List.take_append_drop]
      have hdr : dec r p = dec (0 :: r.drop (o + 1)) (p ++ r.take o) := by
        conv => lhs; rw [hsplit]
        exact dec_run _ hnz (by simp)
      simp only [t1, ↓o_pick, ↓gate_tt, ↓gate_ff, ↓gate_tf, ↓gate_ft, ↓gate_undef, if_true, if_false, Bool.false_eq_true, ↓o_add, t2]
      refine ld_in (b := x) (v := .slice ka r.length kc) h rfl ?_
      rw [o_len, o_eqInt]
      by_cases hlast : o + 1 = r.length
      · have t3 : decide (((o + 1 : Nat) : Int) = (r.length : Int)) = true := decide_eq_true (by omega)
        simp only [t3, ↓o_pick, if_false, Bool.false_eq_true, ↓cd_true]
        refine stop w ?_ h
        rw [hdr, List.drop_eq_nil_of_le (by omega)]
        exact dec_one
      · have t3 : decide (((o + 1 : Nat) : Int) = (r.length : Int)) = false := decide_eq_false (by omega)
        simp only [t3, ↓o_pick, if_false, Bool.false_eq_true, ↓cd_false]
        obtain ⟨d, r2, hd⟩ : ∃ d r2, r.drop (o + 1) = d :: r2 := by
          cases h' : r.drop (o + 1) with
          | nil => simp at h'; omega
          | cons d r2 => exact ⟨d, r2, rfl⟩
        have hr2 : r2 = r.drop (o + 2) := by
          have := congrArg List.tail hd
          rw [List.tail_drop] at this
          exact this.symm
        have hgd : r.getD (o + 1) 0 = d := by
          have e : (r.drop (o + 1))[0]? = some d := by rw [hd]; rfl
          rw [List.getElem?_drop] at e
          rw [List.getD_eq_getElem?_getD, show o + 1 = o + 1 + 0 by omega, e]; rfl
        rw [hd] at hdr
        refine ld_in (b := x) (v := .slice ka r.length kc) h rfl ?_
        rw [o_slice_h (by omega) (by omega)]
        simp only [Int.toNat_natCast]
        have hcut : ∀ X Y : HP, Rds (X * (Y * G ds)) (.slice (cutA ka kc 0 1) o kc) o ((r.take o).map bv) := by
          intro X Y E w hs
          obtain ⟨a', c', e', hc', hw'⟩ := hkv1 E w hs.drop.drop
          cases e'
          have h9 := win_cut hw' (c := kc) (n := 0) (sz := 1) (fun hcn => by rw [List.length_map]; omega)
          have h9 := win_take h9 o
          refine ⟨_, _, rfl, by omega, ?_⟩
          simpa [List.map_take] using h9
        refine append_sl (v := v) h ((r.take o).map bv) (k' := o) (by simp; omega) ((hcut _ _).win h) (bv_one _) (by omega) (by omega) fun v2 w h => ?_
        have e2 : p.map bv ++ (r.take o).map bv = (p ++ r.take o).map bv := by simp
        have e3 : p.length + o = (p ++ r.take o).length := by simp; omega
        rw [e2, e3] at h
        generalize hp2 : p ++ r.take o = p2 at h hdr
        have hp2l : p2.length = p.length + o := by rw [← hp2]; simp; omega
        refine jn_cut (fun σ w => ∃ (v3 : Value) (p3 : List UInt8) (ds3 : List (List UInt8)), σ = [v3] ∧ dec b [] = (dec r2 p3).map (ds3 ++ ·) ∧ p3.length + r2.length ≤ 64 ∧ ds3.length + r2.length ≤ 64 ∧
            sat E w (osl 5 1 v3 p3.length (p3.map bv) * (pts x (.cells [Value.slice ka r.length kc].toArray 23 (0, 0)) * G ds3))) (fun kj hkj => ?_) ?_
        · refine ld_in (b := x) (v := .slice ka r.length kc) h rfl ?_
          try rw [o_add]
          try rw [t2]
          obtain ⟨bb, oo, cc, ee, hcc, hrd⟩ := (hkv1.opened h.drop.drop (by simp; omega))
          cases ee
          rw [o_index (by omega) (by omega)]
          refine ld_rd h (hrd.right.right) (o + 1) (by simp) (v := bv (r.getD (o + 1) 0)) (getbv (by omega)) ?_
          rw [hgd]
          have e255 : (.int .u8 255 : Value) = bv 255 := rfl
          have e1 : (.int .u8 1 : Value) = bv 1 := rfl
          have eqb : ∀ (xo yo : Operand) (c d : UInt8) (w : World) (K : Value → World → Prop), pvv prog (oEq .eql 5 xo yo (bv c) (bv d)) w K = K (.bool (decide (c = d))) w := fun xo yo c d w K => by
            have : (decide ((c.toNat : Int) = (d.toNat : Int))) = decide (c = d) := by
              rw [Bool.eq_iff_iff, decide_eq_true_iff, decide_eq_true_iff, ← UInt8.toNat_inj]; omega
            unfold bv
            rw [o_eqInt, this]
          have hrl2 : r2.length + (o + 2) = r.length := by rw [hr2, List.length_drop]; omega
          rw [e255, eqb]
          by_cases hd255 : d = 255
          · subst hd255
            rw [decide_eq_true rfl, cd_true]
            refine push_sl h (u := .int .u8 0) rfl rfl (by omega) (by omega) fun v3 w h => ?_
            refine hkj _ _ ⟨v3, p2 ++ [0], ds, rfl, by rw [hdec, hdr, dec_ff], by simp; omega, by omega, ?_⟩
            rw [List.length_append, List.map_append]
            exact h
          · rw [decide_eq_false hd255, cd_false, e1, eqb]
            by_cases hd1 : d = 1
            · subst hd1
              rw [decide_eq_true rfl, cd_true]
              refine conv_bs (l := p2) (osl_rd h) ?_
              rw [← star_assoc] at h
              refine hy _ ds p2 (by omega) (by omega) w _ h fun w h => ?_
              rw [star_assoc] at h
              rw [o_not, Bool.not_true, cd_false]
              refine hkj _ _ ⟨.slice none 0 0, [], ds ++ [p2], rfl, ?_, by simp; omega, by simp; omega, osl_nil h.drop 5 1⟩
              rw [hdec, hdr, dec_01]
              cases dec r2 [] <;> simp
            · rw [decide_eq_false hd1, cd_false]
              have hn : dec r p = none := by rw [hdr]; exact dec_bad hd255 hd1
              rw [hn] at hdec
              rw [← star_assoc] at h
              refine hz _ ds w _ h fun w h => k w ?_
              rw [hdec]
              exact h.drop
        · clear h
          rintro σ w ⟨v3, p3, ds3, rfl, hdec3, hpl3, hdl3, h⟩
          rw [pop_cons, fin_nil]
          refine ld_in (b := x) (v := .slice ka r.length kc) h rfl ?_
          try rw [o_add]
          rw [i64_of (by omega) (by omega), show (o : Int) + 2 = ((o + 2 : Nat) : Int) by omega, o_slice_l (by omega) (by omega)]
          simp only [Int.toNat_natCast]
          refine store_sl (b := x) h rfl (by simp) fun w h => ?_
          have hrl2 : r2.length = r.length - (o + 2) := by rw [hr2, List.length_drop]
          refine hag r2.length _ _ (by omega) ⟨v3, .slice (cutA ka kc (o + 2) 1) (r.length - (o + 2)) (kc - (o + 2)), r2, p3, ds3, lo + (o + 2), rfl, rfl, by rw [hr2, hr, List.drop_drop], hdec3, hpl3, hdl3, fun ps => ?_, ?_⟩
          · intro E w hs
            have := (hkv ps E w hs).cutl (lo := o + 2) (by simp) (by omega)
            rw [hrl2, hr2, List.map_drop]
            exact this
          · have h : sat E w (pts x (.cells [Value.slice (cutA ka kc (o + 2) 1) (r.length - (o + 2)) (kc - (o + 2))].toArray 23 (0, 0)) * _) := h
            exact h.perm (by ac_rfl)
  · have hr0 : r = [] := List.eq_nil_of_length_eq_zero (by omega)
    rw [hr0, dec_nil] at hdec
    obtain ⟨pa, pcap, rfl, _⟩ := osl_shape h
    rw [o_len, o_gtr]
    refine cd_dec (fun hp => ?_) (fun hp => ?_)
    · rw [if_neg (by rintro rfl; simp at hp)] at hdec
      rw [← star_assoc] at h
      refine hz _ ds w _ h fun w h => k w ?_
      rw [hdec]
      exact h.drop
    · have hp0 : p = [] := List.eq_nil_of_length_eq_zero (by omega)
      rw [if_pos hp0] at hdec
      simp at hdec
      refine k w ?_
      rw [hdec]
      exact h.drop.drop
end Go.Proofs.YtnkmgkilfkgfhaaDoor
