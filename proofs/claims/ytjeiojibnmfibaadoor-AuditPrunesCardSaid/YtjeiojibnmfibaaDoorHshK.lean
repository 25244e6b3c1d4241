/-
  Sum: the SHA-256 of bytes.
-/
import Derived.Test.YtjeiojibnmfibaaDoorHshJ
set_option linter.all false
set_option maxRecDepth 10000
namespace Go.Proofs.YtjeiojibnmfibaaDoor
open Go Hold
variable {E : World0} {w : World} {H R : HP} {K : Value → World → Prop}
theorem K0_length : K0.length = 64 := rfl
theorem rounds_spec (h : sat E w H) (k : ∀ bk w', sat E w' (pts bk (.cells (K0.map wv).toArray 121 (0, 0)) * H) → K (.pointer (some ⟨bk, 0, none⟩)) w') : Calls prog 67 #[] w (Ret K) := by
  refine c67 ?_
  unfold B67
  refine pvv_of (v := .agg (K0.map wv).toArray) (fun w => by kernel_rfl) ?_
  exact box_sl h fun b1 w h => k _ _ h
theorem Rds.cutB {H : HP} {a : Option Addr} {n c : Nat} {l : List UInt8} (hb : Rds H (.slice a n c) n (l.map bv)) (hl : l.length = n) {lo : Nat} (h1 : lo ≤ n) :
    Rds H (.slice (cutA a c lo 1) (n - lo) (c - lo)) (n - lo) ((l.drop lo).map bv) := fun E w hs => by
  have := (hb E w hs).cutl (by simpa using hl) h1
  rwa [← List.map_drop] at this
theorem getIdx {l : List Value} {i : Nat} {v : Value} (h : l[i]? = some v) : l[(i : Int).toNat]? = some v := h
theorem digest_set : ∀ (st : St) (i : Nat) (x : UInt32), i < 8 → st.list[i]? = some x →
    (((((((digest st).map bv).take (4 * i) ++ List.replicate (32 - 4 * i) (bv 0)).set (4 * i) (bv (x >>> UInt32.ofNat 24).toUInt8)).set (4 * i + 1) (bv (x >>> UInt32.ofNat 16).toUInt8)).set (4 * i + 2) (bv (x >>> UInt32.ofNat 8).toUInt8)).set (4 * i + 3) (bv x.toUInt8)) = ((digest st).map bv).take (4 * (i + 1)) ++ List.replicate (32 - 4 * (i + 1)) (bv 0) := by
  intro st i x hi hx
  match i, hi with
  | 0, _ => cases hx; rfl
  | 1, _ => cases hx; rfl
  | 2, _ => cases hx; rfl
  | 3, _ => cases hx; rfl
  | 4, _ => cases hx; rfl
  | 5, _ => cases hx; rfl
  | 6, _ => cases hx; rfl
  | 7, _ => cases hx; rfl
  | n + 8, h => omega
theorem pad_take {b : List UInt8} {j : Nat} (h : 64 * j ≤ b.length) : (padded b).take (64 * j) = b.take (64 * j) := by
  unfold padded
  rw [List.append_assoc, List.append_assoc, List.take_append_of_le_length h]
theorem pad_drop {b : List UInt8} {j : Nat} (h : 64 * j ≤ b.length) : (padded b).drop (64 * j) = b.drop (64 * j) ++ [128] ++ List.replicate ((119 - b.length % 64) % 64) 0 ++ lenBytes b.length := by
  unfold padded
  rw [List.append_assoc, List.append_assoc, List.drop_append_of_le_length h, List.append_assoc, List.append_assoc]
theorem Sum_out {bh bo : Nat} {st : St} (h : sat E w (pts bh (.cells (st.list.map wv).toArray 107 (0, 0)) * (pts bo (.cells (List.replicate 32 (bv 0)).toArray 36 (0, 0)) * H)))
    (k : ∀ w', sat E w' H → K (.agg ((digest st).map bv).toArray) w') :
        ldv prog (Instr.loadAt 107 (.pointer (some ⟨bh, 0, none⟩))) w fun t_42 w =>
        lp (fun σ w again_44 => pop σ fun t_43 σ => fin σ <|
          pvv prog (binOp .lss 3 t_43 (.int .i64 8)) w fun t_45 w =>
          cd t_45 (
            pvv prog (Instr.index 107 t_42 t_43) w fun t_46 w =>
            pvv prog (binOp .mul 3 (.int .i64 4) t_43) w fun t_47 w =>
            pvv prog (binOp .mul 3 (.int .i64 4) t_43) w fun t_48 w =>
            pvv prog (binOp .add 3 t_48 (.int .i64 1)) w fun t_49 w =>
            pvv prog (binOp .mul 3 (.int .i64 4) t_43) w fun t_50 w =>
            pvv prog (binOp .add 3 t_50 (.int .i64 2)) w fun t_51 w =>
            pvv prog (binOp .mul 3 (.int .i64 4) t_43) w fun t_52 w =>
            pvv prog (binOp .add 3 t_52 (.int .i64 3)) w fun t_53 w =>
            pvv prog (binOp .shr 101 t_46 (.int .u64 24)) w fun t_54 w =>
            pvv prog (convert 101 5 t_54) w fun t_55 w =>
            pvv prog (binOp .shr 101 t_46 (.int .u64 16)) w fun t_56 w =>
            pvv prog (convert 101 5 t_56) w fun t_57 w =>
            pvv prog (binOp .shr 101 t_46 (.int .u64 8)) w fun t_58 w =>
            pvv prog (convert 101 5 t_58) w fun t_59 w =>
            pvv prog (convert 101 5 t_46) w fun t_60 w =>
            pvv prog (Instr.indexAt 36 (.pointer (some ⟨bo, 0, none⟩)) t_47) w fun t_61 w =>
            efu prog (Instr.storeAt 5 t_61 t_55) w fun u_62 w =>
            pvv prog (Instr.indexAt 36 (.pointer (some ⟨bo, 0, none⟩)) t_49) w fun t_63 w =>
            efu prog (Instr.storeAt 5 t_63 t_57) w fun u_64 w =>
            pvv prog (Instr.indexAt 36 (.pointer (some ⟨bo, 0, none⟩)) t_51) w fun t_65 w =>
            efu prog (Instr.storeAt 5 t_65 t_59) w fun u_66 w =>
            pvv prog (Instr.indexAt 36 (.pointer (some ⟨bo, 0, none⟩)) t_53) w fun t_67 w =>
            efu prog (Instr.storeAt 5 t_67 t_60) w fun u_68 w =>
            pvv prog (binOp .add 3 t_43 (.int .i64 1)) w fun t_69 w =>
            again_44 [t_69] w) <|
          ldv prog (Instr.loadAt 36 (.pointer (some ⟨bo, 0, none⟩))) w fun t_70 w =>
          efu prog (Instr.storeAt 36 (.pointer (some ⟨bo, 0, none⟩)) t_70) w fun u_71 w =>
          ∃ r_72, (do loadVar 36 (← asAddr (.pointer (some ⟨bo, 0, none⟩)))).run prog w = .ok r_72 w ∧ K r_72 w) [(.int .i64 0)] w := by
  refine ld_agg (b := bh) h (by simp [St.len]) ?_
  refine lp_nat (fun m σ w => ∃ i : Nat, σ = [.int .i64 i] ∧ m = 8 - i ∧ i ≤ 8 ∧
    sat E w (pts bo (.cells (((digest st).map bv).take (4 * i) ++ List.replicate (32 - 4 * i) (bv 0)).toArray 36 (0, 0)) * (pts bh (.cells (st.list.map wv).toArray 107 (0, 0)) * H))) 8 ⟨0, rfl, rfl, by omega, h.own bo⟩ ?_
  rintro m σ w again ⟨i, rfl, rfl, hi, h⟩ hag
  rw [pop_cons, fin_nil, o_lss]
  refine cd_dec (fun hlt => ?_) (fun hge => ?_)
  · have hlt : i < 8 := by omega
    have hx : st.list[i]? = some (st.list.getD i 0) := by
      have hl : i < st.list.length := by rw [St.len]; exact hlt
      simp [List.getD_eq_getElem?_getD, hl]
    rw [o_indexV (by simp [St.len]) (by omega) (getIdx (getwv' (by rw [St.len]; exact hlt)))]
    have e0 : IntKind.i64.wrap (4 * (i : Int)) = ((4 * i : Nat) : Int) := by rw [i64_of (by omega) (by omega)]; omega
    have e1 : IntKind.i64.wrap (((4 * i : Nat) : Int) + 1) = ((4 * i + 1 : Nat) : Int) := by rw [i64_of (by omega) (by omega)]; omega
    have e2 : IntKind.i64.wrap (((4 * i : Nat) : Int) + 2) = ((4 * i + 2 : Nat) : Int) := by rw [i64_of (by omega) (by omega)]; omega
    have e3 : IntKind.i64.wrap (((4 * i : Nat) : Int) + 3) = ((4 * i + 3 : Nat) : Int) := by rw [i64_of (by omega) (by omega)]; omega
    have ix : ∀ {j : Nat}, j < 32 → ∀ {w : World} {K : Value → World → Prop}, pvv prog (Instr.indexAt 36 (.pointer (some ⟨bo, 0, none⟩)) (.int .i64 (j : Int))) w K = K (.pointer (some ⟨bo, j, none⟩)) w := fun {j} hj {w K} => by
      rw [o_indexA (by omega) (by omega)]; simp
    simp only [e0, e1, e2, e3, ↓o_nil, ↓o_field, ↓o_add, ↓o_sub, ↓o_mul, ↓o_lss, ↓o_leq, ↓o_gtr, ↓o_geq, ↓o_not, ↓o_pick, ↓o_eqInt, ↓o_neInt, ↓o_eqBool, ↓o_neBool, ↓o_eqPtr, ↓o_nePtr, ↓o_eqPtr', ↓o_eqSl, ↓o_neSl, ↓o_eqStr, ↓o_neStr, ↓o_len, ↓o_lenS, ↓o_min, ↓o_max, ↓o_extract, ↓o_convInt, ↓cd_true, ↓cd_false, ↓gate_tt, ↓gate_ff, ↓gate_tf, ↓gate_ft, ↓gate_undef, ↓o_bind, ↓stay_v, ↓pop_cons, ↓fin_nil, Option.isNone_none, Option.isNone_some, Bool.not_true, Bool.not_false, Nat.zero_add, decide_true, decide_false, if_true, if_false, Bool.false_eq_true, ↓reduceIte]
    rw [o_shrW' (by decide) (by decide), o_convWB, o_shrW' (by decide) (by decide), o_convWB, o_shrW' (by decide) (by decide), o_convWB, o_convWB]
    simp only [ix (j := 4 * i) (by omega), ix (j := 4 * i + 1) (by omega), ix (j := 4 * i + 2) (by omega), ix (j := 4 * i + 3) (by omega)]
    have hlen : ∀ q, q < 32 → q < (((digest st).map bv).take (4 * i) ++ List.replicate (32 - 4 * i) (bv 0)).length := fun q hq => by
      simp [digest_length]; omega
    refine store_sl (b := bo) h rfl (hlen _ (by omega)) fun w h => ?_
    refine store_sl (b := bo) h rfl (by rw [List.length_set]; exact hlen _ (by omega)) fun w h => ?_
    refine store_sl (b := bo) h rfl (by rw [List.length_set, List.length_set]; exact hlen _ (by omega)) fun w h => ?_
    refine store_sl (b := bo) h rfl (by rw [List.length_set, List.length_set, List.length_set]; exact hlen _ (by omega)) fun w h => ?_
    try rw [o_add]
    rw [i64_of (by omega) (by omega)]
    refine hag _ _ _ (by omega) ⟨i + 1, rfl, rfl, by omega, ?_⟩
    have e := digest_set st i _ hlt hx
    rw [← e]
    exact h
  · have hi8 : i = 8 := by omega
    subst hi8
    have h : sat E w (pts bo (.cells ((digest st).map bv).toArray 36 (0, 0)) * (pts bh (.cells (st.list.map wv).toArray 107 (0, 0)) * H)) := by
      have e : ((digest st).map bv).take (4 * 8) ++ List.replicate (32 - 4 * 8) (bv 0) = (digest st).map bv := by
        rw [List.take_of_length_le (by simp [digest_length])]; simp
      rw [e] at h; exact h
    refine ld_agg (b := bo) h (by simp [digest_length]) ?_
    refine storeN_sl (b := bo) h (aggC_36).size (vs := (digest st).map bv) (by simp [Value.cells]) (by simp [digest_length]) (bv_one _) (by simp [digest_length]) fun w h => ?_
    have h : sat E w (pts bo (.cells ((digest st).map bv).toArray 36 (0, 0)) * (pts bh (.cells (st.list.map wv).toArray 107 (0, 0)) * H)) := by
      have e : ((digest st).map bv).take 0 ++ (digest st).map bv ++ ((digest st).map bv).drop (0 + 32) = (digest st).map bv := by
        rw [List.drop_eq_nil_of_le (by simp [digest_length])]; simp
      rw [e] at h; exact h
    exact res_agg (b := bo) h (by simp [digest_length]) (k _ h.drop.drop)
theorem Sum_rest {bh bo bk : Nat} {st : St} {ve : Value} {m : List UInt8} (hm : m.length % 64 = 0) (hml : m.length ≤ 140737488355328)
    (h : sat E w (pts bh (.cells (st.list.map wv).toArray 107 (0, 0)) * (pts bk (.cells (K0.map wv).toArray 121 (0, 0)) * (pts bo (.cells (List.replicate 32 (bv 0)).toArray 36 (0, 0)) * H))))
    (hv : Rds H ve m.length (m.map bv))
    (k : ∀ w', sat E w' H → K (.agg ((digest (fold st m (m.length / 64))).map bv).toArray) w') :
      lp (fun σ w again_35 => pop σ fun end_34 σ => fin σ <|
        pv prog (oBi .len #[72] 3 #[false] #[end_34]) w fun t_36 w =>
        pvv prog (binOp .gtr 3 t_36 (.int .i64 0)) w fun t_37 w =>
        cd t_37 (
          ldv prog (Instr.loadAt 107 (.pointer (some ⟨bh, 0, none⟩))) w fun t_38 w =>
          Calls prog 68 #[t_38, (.pointer (some ⟨bk, 0, none⟩)), end_34] w (Ret fun t_39 w =>
          efu prog (Instr.storeAt 107 (.pointer (some ⟨bh, 0, none⟩)) t_39) w fun u_40 w =>
          pvv prog (Instr.sliceAt 72 end_34 (some (.int .i64 64)) none none) w fun t_41 w =>
          again_35 [t_41] w)) <|
        ldv prog (Instr.loadAt 107 (.pointer (some ⟨bh, 0, none⟩))) w fun t_42 w =>
        lp (fun σ w again_44 => pop σ fun t_43 σ => fin σ <|
          pvv prog (binOp .lss 3 t_43 (.int .i64 8)) w fun t_45 w =>
          cd t_45 (
            pvv prog (Instr.index 107 t_42 t_43) w fun t_46 w =>
            pvv prog (binOp .mul 3 (.int .i64 4) t_43) w fun t_47 w =>
            pvv prog (binOp .mul 3 (.int .i64 4) t_43) w fun t_48 w =>
            pvv prog (binOp .add 3 t_48 (.int .i64 1)) w fun t_49 w =>
            pvv prog (binOp .mul 3 (.int .i64 4) t_43) w fun t_50 w =>
            pvv prog (binOp .add 3 t_50 (.int .i64 2)) w fun t_51 w =>
            pvv prog (binOp .mul 3 (.int .i64 4) t_43) w fun t_52 w =>
            pvv prog (binOp .add 3 t_52 (.int .i64 3)) w fun t_53 w =>
            pvv prog (binOp .shr 101 t_46 (.int .u64 24)) w fun t_54 w =>
            pvv prog (convert 101 5 t_54) w fun t_55 w =>
            pvv prog (binOp .shr 101 t_46 (.int .u64 16)) w fun t_56 w =>
            pvv prog (convert 101 5 t_56) w fun t_57 w =>
            pvv prog (binOp .shr 101 t_46 (.int .u64 8)) w fun t_58 w =>
            pvv prog (convert 101 5 t_58) w fun t_59 w =>
            pvv prog (convert 101 5 t_46) w fun t_60 w =>
            pvv prog (Instr.indexAt 36 (.pointer (some ⟨bo, 0, none⟩)) t_47) w fun t_61 w =>
            efu prog (Instr.storeAt 5 t_61 t_55) w fun u_62 w =>
            pvv prog (Instr.indexAt 36 (.pointer (some ⟨bo, 0, none⟩)) t_49) w fun t_63 w =>
            efu prog (Instr.storeAt 5 t_63 t_57) w fun u_64 w =>
            pvv prog (Instr.indexAt 36 (.pointer (some ⟨bo, 0, none⟩)) t_51) w fun t_65 w =>
            efu prog (Instr.storeAt 5 t_65 t_59) w fun u_66 w =>
            pvv prog (Instr.indexAt 36 (.pointer (some ⟨bo, 0, none⟩)) t_53) w fun t_67 w =>
            efu prog (Instr.storeAt 5 t_67 t_60) w fun u_68 w =>
            pvv prog (binOp .add 3 t_43 (.int .i64 1)) w fun t_69 w =>
            again_44 [t_69] w) <|
          ldv prog (Instr.loadAt 36 (.pointer (some ⟨bo, 0, none⟩))) w fun t_70 w =>
          efu prog (Instr.storeAt 36 (.pointer (some ⟨bo, 0, none⟩)) t_70) w fun u_71 w =>
          ∃ r_72, (do loadVar 36 (← asAddr (.pointer (some ⟨bo, 0, none⟩)))).run prog w = .ok r_72 w ∧ K r_72 w) [(.int .i64 0)] w) [ve] w := by
  obtain ⟨a, c, rfl, hc, hv, ha⟩ := hv.shape h.drop.drop.drop
  refine lp_nat (fun q σ w => ∃ j a' c', σ = [.slice a' (m.length - 64 * j) c'] ∧ q = m.length - 64 * j ∧ 64 * j ≤ m.length ∧ Rds H (.slice a' (m.length - 64 * j) c') (m.length - 64 * j) ((m.drop (64 * j)).map bv) ∧
    sat E w (pts bh (.cells ((fold st m j).list.map wv).toArray 107 (0, 0)) * (pts bk (.cells (K0.map wv).toArray 121 (0, 0)) * (pts bo (.cells (List.replicate 32 (bv 0)).toArray 36 (0, 0)) * H)))) m.length
    ⟨0, a, c, rfl, rfl, by omega, hv, h⟩ ?_
  rintro q σ w again ⟨j, a', c', rfl, rfl, hj, hr, h⟩ hag
  simp only [↓o_nil, ↓o_field, ↓o_add, ↓o_sub, ↓o_mul, ↓o_lss, ↓o_leq, ↓o_gtr, ↓o_geq, ↓o_not, ↓o_pick, ↓o_eqInt, ↓o_neInt, ↓o_eqBool, ↓o_neBool, ↓o_eqPtr, ↓o_nePtr, ↓o_eqPtr', ↓o_eqSl, ↓o_neSl, ↓o_eqStr, ↓o_neStr, ↓o_len, ↓o_lenS, ↓o_min, ↓o_max, ↓o_extract, ↓o_convInt, ↓cd_true, ↓cd_false, ↓gate_tt, ↓gate_ff, ↓gate_tf, ↓gate_ft, ↓gate_undef, ↓o_bind, ↓stay_v, ↓pop_cons, ↓fin_nil, Option.isNone_none, Option.isNone_some, Bool.not_true, Bool.not_false, Nat.zero_add, decide_true, decide_false, if_true, if_false, Bool.false_eq_true, ↓reduceIte]
  refine cd_dec (fun hlt => ?_) (fun hge => ?_)
  · refine ld_agg (b := bh) h (by simp [St.len]) ?_
    have hr2 : Rds (pts bh (.cells ((fold st m j).list.map wv).toArray 107 (0, 0)) * (pts bk (.cells (K0.map wv).toArray 121 (0, 0)) * (pts bo (.cells (List.replicate 32 (bv 0)).toArray 36 (0, 0)) * H))) (.slice a' (m.length - 64 * j) c') (m.drop (64 * j)).length ((m.drop (64 * j)).map bv) := by
      rw [List.length_drop]; exact hr.right.right.right
    refine mix_spec (bk := bk) h K0_length hr2 (by simp; omega) fun w h => ?_
    refine storeN_sl (b := bh) h (aggC_107).size (vs := (mix K0 (fold st m j) (m.drop (64 * j))).list.map wv) (by simp [Value.cells]) (by simp [St.len]) (wv_one _) (by simp [St.len]) fun w h => ?_
    rw [o_slice_l (by decide) (by omega)]
    refine hag (m.length - 64 * (j + 1)) _ _ (by omega) ⟨j + 1, cutA a' c' 64 1, c' - 64, ?_, rfl, by omega, ?_, ?_⟩
    · have e : m.length - 64 * j - (64 : Int).toNat = m.length - 64 * (j + 1) := by
        show m.length - 64 * j - 64 = _; omega
      rw [e]; rfl
    · have := Rds.cutB hr (by simp) (lo := 64) (by omega)
      rw [List.drop_drop] at this
      have e : m.length - 64 * j - 64 = m.length - 64 * (j + 1) := by omega
      rw [e, show 64 * j + 64 = 64 * (j + 1) by omega] at this
      exact this
    · exact h
  · have hj2 : j = m.length / 64 := by omega
    subst hj2
    have h : sat E w (pts bh (.cells ((fold st m (m.length / 64)).list.map wv).toArray 107 (0, 0)) * (pts bo (.cells (List.replicate 32 (bv 0)).toArray 36 (0, 0)) * H)) := h.lose bk
    exact Sum_out h k
theorem lenBytes_get {n i : Nat} (hi : i < 8) : (lenBytes n).take (i + 1) = (lenBytes n).take i ++ [UInt8.ofNat (n * 8 % 18446744073709551616 / 2 ^ (56 - 8 * i))] := by
  have hl : i < (lenBytes n).length := by rw [lenBytes_length]; exact hi
  rw [List.take_succ_eq_append_getElem hl]
  congr 2
  simp [lenBytes]
theorem Sum_len {bh bo bk : Nat} {st : St} {ve : Value} {m : List UInt8} {n N : Nat} (hN : n * 8 % 18446744073709551616 = N) (hm : (m.length + 8) % 64 = 0) (hml : m.length + 8 ≤ 140737488355328)
    (h : sat E w (osl 5 1 ve m.length (m.map bv) * (pts bh (.cells (st.list.map wv).toArray 107 (0, 0)) * (pts bk (.cells (K0.map wv).toArray 121 (0, 0)) * (pts bo (.cells (List.replicate 32 (bv 0)).toArray 36 (0, 0)) * H)))))
    (k : ∀ w', sat E w' H → K (.agg ((digest (fold st (m ++ lenBytes n) ((m ++ lenBytes n).length / 64))).map bv).toArray) w') :
    lp (fun σ w again_25 => pop σ fun end_23 σ => pop σ fun t_24 σ => fin σ <|
      pvv prog (binOp .lss 3 t_24 (.int .i64 8)) w fun t_26 w =>
      cd t_26 (
        pvv prog (binOp .mul 3 (.int .i64 8) t_24) w fun t_27 w =>
        pvv prog (binOp .sub 3 (.int .i64 56) t_27) w fun t_28 w =>
        pvv prog (binOp .shr 96 (.int .u64 (N : Int)) t_28) w fun t_29 w =>
        pvv prog (convert 96 5 t_29) w fun t_30 w =>
        efv prog (Instr.buildSlice 72 1 #[(0, t_30)]) w fun t_31 w =>
        ef prog (oBi .append #[72, 72] 72 #[false, false] #[end_23, t_31]) w fun t_32 w =>
        pvv prog (binOp .add 3 t_24 (.int .i64 1)) w fun t_33 w =>
        again_25 [t_32, t_33] w) <|
      lp (fun σ w again_35 => pop σ fun end_34 σ => fin σ <|
        pv prog (oBi .len #[72] 3 #[false] #[end_34]) w fun t_36 w =>
        pvv prog (binOp .gtr 3 t_36 (.int .i64 0)) w fun t_37 w =>
        cd t_37 (
          ldv prog (Instr.loadAt 107 (.pointer (some ⟨bh, 0, none⟩))) w fun t_38 w =>
          Calls prog 68 #[t_38, (.pointer (some ⟨bk, 0, none⟩)), end_34] w (Ret fun t_39 w =>
          efu prog (Instr.storeAt 107 (.pointer (some ⟨bh, 0, none⟩)) t_39) w fun u_40 w =>
          pvv prog (Instr.sliceAt 72 end_34 (some (.int .i64 64)) none none) w fun t_41 w =>
          again_35 [t_41] w)) <|
        ldv prog (Instr.loadAt 107 (.pointer (some ⟨bh, 0, none⟩))) w fun t_42 w =>
        lp (fun σ w again_44 => pop σ fun t_43 σ => fin σ <|
          pvv prog (binOp .lss 3 t_43 (.int .i64 8)) w fun t_45 w =>
          cd t_45 (
            pvv prog (Instr.index 107 t_42 t_43) w fun t_46 w =>
            pvv prog (binOp .mul 3 (.int .i64 4) t_43) w fun t_47 w =>
            pvv prog (binOp .mul 3 (.int .i64 4) t_43) w fun t_48 w =>
            pvv prog (binOp .add 3 t_48 (.int .i64 1)) w fun t_49 w =>
            pvv prog (binOp .mul 3 (.int .i64 4) t_43) w fun t_50 w =>
            pvv prog (binOp .add 3 t_50 (.int .i64 2)) w fun t_51 w =>
            pvv prog (binOp .mul 3 (.int .i64 4) t_43) w fun t_52 w =>
            pvv prog (binOp .add 3 t_52 (.int .i64 3)) w fun t_53 w =>
            pvv prog (binOp .shr 101 t_46 (.int .u64 24)) w fun t_54 w =>
            pvv prog (convert 101 5 t_54) w fun t_55 w =>
            pvv prog (binOp .shr 101 t_46 (.int .u64 16)) w fun t_56 w =>
            pvv prog (convert 101 5 t_56) w fun t_57 w =>
            pvv prog (binOp .shr 101 t_46 (.int .u64 8)) w fun t_58 w =>
            pvv prog (convert 101 5 t_58) w fun t_59 w =>
            pvv prog (convert 101 5 t_46) w fun t_60 w =>
            pvv prog (Instr.indexAt 36 (.pointer (some ⟨bo, 0, none⟩)) t_47) w fun t_61 w =>
            efu prog (Instr.storeAt 5 t_61 t_55) w fun u_62 w =>
            pvv prog (Instr.indexAt 36 (.pointer (some ⟨bo, 0, none⟩)) t_49) w fun t_63 w =>
            efu prog (Instr.storeAt 5 t_63 t_57) w fun u_64 w =>
            pvv prog (Instr.indexAt 36 (.pointer (some ⟨bo, 0, none⟩)) t_51) w fun t_65 w =>
            efu prog (Instr.storeAt 5 t_65 t_59) w fun u_66 w =>
            pvv prog (Instr.indexAt 36 (.pointer (some ⟨bo, 0, none⟩)) t_53) w fun t_67 w =>
            efu prog (Instr.storeAt 5 t_67 t_60) w fun u_68 w =>
            pvv prog (binOp .add 3 t_43 (.int .i64 1)) w fun t_69 w =>
            again_44 [t_69] w) <|
          ldv prog (Instr.loadAt 36 (.pointer (some ⟨bo, 0, none⟩))) w fun t_70 w =>
          efu prog (Instr.storeAt 36 (.pointer (some ⟨bo, 0, none⟩)) t_70) w fun u_71 w =>
          ∃ r_72, (do loadVar 36 (← asAddr (.pointer (some ⟨bo, 0, none⟩)))).run prog w = .ok r_72 w ∧ K r_72 w) [(.int .i64 0)] w) [end_23] w) [ve, .int .i64 0] w := by
  refine lp_nat (fun q σ w => ∃ (i : Nat) (ve : Value), σ = [ve, .int .i64 i] ∧ q = 8 - i ∧ i ≤ 8 ∧
    sat E w (osl 5 1 ve (m.length + i) ((m ++ (lenBytes n).take i).map bv) * (pts bh (.cells (st.list.map wv).toArray 107 (0, 0)) * (pts bk (.cells (K0.map wv).toArray 121 (0, 0)) * (pts bo (.cells (List.replicate 32 (bv 0)).toArray 36 (0, 0)) * H))))) 8
    ⟨0, ve, rfl, rfl, by omega, by simpa using h⟩ ?_
  rintro q σ w again ⟨i, ve, rfl, rfl, hi, h⟩ hag
  simp only [↓o_nil, ↓o_field, ↓o_add, ↓o_sub, ↓o_mul, ↓o_lss, ↓o_leq, ↓o_gtr, ↓o_geq, ↓o_not, ↓o_pick, ↓o_eqInt, ↓o_neInt, ↓o_eqBool, ↓o_neBool, ↓o_eqPtr, ↓o_nePtr, ↓o_eqPtr', ↓o_eqSl, ↓o_neSl, ↓o_eqStr, ↓o_neStr, ↓o_len, ↓o_lenS, ↓o_min, ↓o_max, ↓o_extract, ↓o_convInt, ↓cd_true, ↓cd_false, ↓gate_tt, ↓gate_ff, ↓gate_tf, ↓gate_ft, ↓gate_undef, ↓o_bind, ↓stay_v, ↓pop_cons, ↓fin_nil, Option.isNone_none, Option.isNone_some, Bool.not_true, Bool.not_false, Nat.zero_add, decide_true, decide_false, if_true, if_false, Bool.false_eq_true, ↓reduceIte]
  refine cd_dec (fun hlt => ?_) (fun hge => ?_)
  · have hlt : i < 8 := by omega
    have e0 : IntKind.i64.wrap (8 * (i : Int)) = ((8 * i : Nat) : Int) := by rw [i64_of (by omega) (by omega)]; omega
    have e1 : IntKind.i64.wrap (56 - ((8 * i : Nat) : Int)) = ((56 - 8 * i : Nat) : Int) := by rw [i64_of (by omega) (by omega)]; omega
    rw [e0, e1, o_shr (by simp [IntKind.bits]; omega), o_convInt]
    have e2 : Value.int .u8 (IntKind.u8.wrap ((N / 2 ^ (56 - 8 * i) : Nat) : Int)) = bv (UInt8.ofNat (N / 2 ^ (56 - 8 * i))) := by
      unfold bv; rw [IntKind.wrap_u8]; congr 1
    rw [e2]
    refine push_sl h rfl rfl (by omega) (by omega) fun v2 w h => ?_
    try rw [o_add]
    rw [i64_of (by omega) (by omega)]
    refine hag (8 - (i + 1)) _ _ (by omega) ⟨i + 1, v2, rfl, rfl, by omega, ?_⟩
    rw [lenBytes_get hlt, hN, ← List.append_assoc, List.map_append]
    exact h
  · have hi8 : i = 8 := by omega
    subst hi8
    have e : (lenBytes n).take 8 = lenBytes n := List.take_of_length_le (by rw [lenBytes_length]; omega)
    rw [e] at h
    have hfr := osl_freeze h
    have hfr : sat E w (pts bh (.cells (st.list.map wv).toArray 107 (0, 0)) * (pts bk (.cells (K0.map wv).toArray 121 (0, 0)) * (pts bo (.cells (List.replicate 32 (bv 0)).toArray 36 (0, 0)) * (pers (immS ve (m.length + 8) ((m ++ lenBytes n).map bv)) * H)))) := hfr.perm (by ac_rfl)
    refine Sum_rest (m := m ++ lenBytes n) (by rw [List.length_append, lenBytes_length]; exact hm) (by rw [List.length_append, lenBytes_length]; exact hml) hfr ?_ fun w h => k _ h.drop
    rw [List.length_append, lenBytes_length]
    exact Rds.pers.left
theorem Sum_spec (h : sat E w H) {v : Value} {b : List UInt8} (hb : Rds H v b.length (b.map bv)) (hl : b.length ≤ 140737488355000)
    (k : ∀ w', sat E w' H → K (.agg ((sha b).map bv).toArray) w') : Calls prog 57 #[v] w (Ret K) := by
  refine c57 ?_
  unfold B57
  refine alloc_sl h fun bo w h => ?_
  have h : sat E w (pts bo (.cells (List.replicate 32 (bv 0)).toArray 36 (0, 0)) * H) := h
  refine pvv_of (v := .agg (st0.list.map wv).toArray) (fun w => by kernel_rfl) ?_
  refine alloc_sl h fun bh w h => ?_
  have h : sat E w (pts bh (.cells (List.replicate 8 (wv 0)).toArray 107 (0, 0)) * (pts bo (.cells (List.replicate 32 (bv 0)).toArray 36 (0, 0)) * H)) := h
  refine storeN_sl (b := bh) h (aggC_107).size (vs := st0.list.map wv) (by simp [Value.cells]) (by simp [St.len]) (wv_one _) (by simp) fun w h => ?_
  have h : sat E w (pts bh (.cells (st0.list.map wv).toArray 107 (0, 0)) * (pts bo (.cells (List.replicate 32 (bv 0)).toArray 36 (0, 0)) * H)) := h
  refine rounds_spec h fun bk w h => ?_
  obtain ⟨a, c, rfl, hc, hb, ha⟩ := hb.shape (h.drop.drop.drop)
  simp only [↓o_nil, ↓o_field, ↓o_add, ↓o_sub, ↓o_mul, ↓o_lss, ↓o_leq, ↓o_gtr, ↓o_geq, ↓o_not, ↓o_pick, ↓o_eqInt, ↓o_neInt, ↓o_eqBool, ↓o_neBool, ↓o_eqPtr, ↓o_nePtr, ↓o_eqPtr', ↓o_eqSl, ↓o_neSl, ↓o_eqStr, ↓o_neStr, ↓o_len, ↓o_lenS, ↓o_min, ↓o_max, ↓o_extract, ↓o_convInt, ↓cd_true, ↓cd_false, ↓gate_tt, ↓gate_ff, ↓gate_tf, ↓gate_ft, ↓gate_undef, ↓o_bind, ↓stay_v, ↓pop_cons, ↓fin_nil, Option.isNone_none, Option.isNone_some, Bool.not_true, Bool.not_false, Nat.zero_add, decide_true, decide_false, if_true, if_false, Bool.false_eq_true, ↓reduceIte]
  have ew : IntKind.u64.wrap (b.length : Int) = (b.length : Int) := by rw [IntKind.wrap_u64]; omega
  rw [ew]
  rw [show (Value.int .u64 3) = Value.int .u64 ((3 : Nat) : Int) from rfl, o_shl (by decide)]
  have en : IntKind.u64.wrap ((b.length : Int) * 2 ^ 3) = ((b.length * 8 % 18446744073709551616 : Nat) : Int) := by rw [IntKind.wrap_u64]; omega
  rw [en]
  generalize hN : b.length * 8 % 18446744073709551616 = N
  refine lp_nat (fun m σ w => ∃ j a' c', σ = [.slice a' (b.length - 64 * j) c'] ∧ m = b.length - 64 * j ∧ 64 * j ≤ b.length ∧ Rds H (.slice a' (b.length - 64 * j) c') (b.length - 64 * j) ((b.drop (64 * j)).map bv) ∧
    sat E w (pts bh (.cells ((fold st0 b j).list.map wv).toArray 107 (0, 0)) * (pts bk (.cells (K0.map wv).toArray 121 (0, 0)) * (pts bo (.cells (List.replicate 32 (bv 0)).toArray 36 (0, 0)) * H)))) b.length
    ⟨0, a, c, rfl, rfl, by omega, hb, h.perm (by rw [star_left_comm]; rfl)⟩ ?_
  rintro m σ w again ⟨j, a', c', rfl, rfl, hj, hr, h⟩ hag
  simp only [↓o_nil, ↓o_field, ↓o_add, ↓o_sub, ↓o_mul, ↓o_lss, ↓o_leq, ↓o_gtr, ↓o_geq, ↓o_not, ↓o_pick, ↓o_eqInt, ↓o_neInt, ↓o_eqBool, ↓o_neBool, ↓o_eqPtr, ↓o_nePtr, ↓o_eqPtr', ↓o_eqSl, ↓o_neSl, ↓o_eqStr, ↓o_neStr, ↓o_len, ↓o_lenS, ↓o_min, ↓o_max, ↓o_extract, ↓o_convInt, ↓cd_true, ↓cd_false, ↓gate_tt, ↓gate_ff, ↓gate_tf, ↓gate_ft, ↓gate_undef, ↓o_bind, ↓stay_v, ↓pop_cons, ↓fin_nil, Option.isNone_none, Option.isNone_some, Bool.not_true, Bool.not_false, Nat.zero_add, decide_true, decide_false, if_true, if_false, Bool.false_eq_true, ↓reduceIte]
  refine cd_dec (fun hlt => ?_) (fun hge => ?_)
  · refine ld_agg (b := bh) h (by simp [St.len]) ?_
    have hr2 : Rds (pts bh (.cells ((fold st0 b j).list.map wv).toArray 107 (0, 0)) * (pts bk (.cells (K0.map wv).toArray 121 (0, 0)) * (pts bo (.cells (List.replicate 32 (bv 0)).toArray 36 (0, 0)) * H))) (.slice a' (b.length - 64 * j) c') (b.drop (64 * j)).length ((b.drop (64 * j)).map bv) := by
      rw [List.length_drop]; exact hr.right.right.right
    refine mix_spec (bk := bk) h K0_length hr2 (by simp; omega) fun w h => ?_
    refine storeN_sl (b := bh) h (aggC_107).size (vs := (mix K0 (fold st0 b j) (b.drop (64 * j))).list.map wv) (by simp [Value.cells]) (by simp [St.len]) (wv_one _) (by simp [St.len]) fun w h => ?_
    rw [o_slice_l (by decide) (by omega)]
    refine hag (b.length - 64 * (j + 1)) _ _ (by omega) ⟨j + 1, cutA a' c' 64 1, c' - 64, ?_, rfl, by omega, ?_, ?_⟩
    · have e : b.length - 64 * j - (64 : Int).toNat = b.length - 64 * (j + 1) := by
        show b.length - 64 * j - 64 = _; omega
      rw [e]; rfl
    · have := Rds.cutB hr (by simp) (lo := 64) (by omega)
      rw [List.drop_drop] at this
      have e : b.length - 64 * j - 64 = b.length - 64 * (j + 1) := by omega
      rw [e, show 64 * j + 64 = 64 * (j + 1) by omega] at this
      exact this
    · exact h
  · have hlt : b.length - 64 * j < 64 := by omega
    have hr2 : Rds (pts bh (.cells ((fold st0 b j).list.map wv).toArray 107 (0, 0)) * (pts bk (.cells (K0.map wv).toArray 121 (0, 0)) * (pts bo (.cells (List.replicate 32 (bv 0)).toArray 36 (0, 0)) * H))) (.slice a' (b.length - 64 * j) c') (b.drop (64 * j)).length ((b.drop (64 * j)).map bv) := by
      rw [List.length_drop]; exact hr.right.right.right
    refine Clone_spec h hr2 (by simp; omega) fun v1 w h => ?_
    refine push_sl h rfl rfl (by simp; omega) (by simp; omega) fun v2 w h => ?_
    have hlen : (b.drop (64 * j)).length = b.length - 64 * j := by simp
    rw [i64_of (by omega) (by omega), o_rem (by decide)]
    have ez : ((119 : Int) - ((b.length - 64 * j : Nat) : Int)).tmod 64 = (((119 - b.length % 64) % 64 : Nat) : Int) := by
      rw [Int.tmod_eq_emod_of_nonneg (by omega)]
      omega
    rw [ez]
    refine append_noughts h rfl (by rw [hlen]; omega) (by rw [hlen]; omega) fun v3 w h => ?_
    have em : (b.drop (64 * j)).map bv ++ [Value.int .u8 128] ++ List.replicate ((119 - b.length % 64) % 64) (Value.int .u8 0) = (b.drop (64 * j) ++ [128] ++ List.replicate ((119 - b.length % 64) % 64) 0).map bv := by
      simp [bv]
    rw [em] at h
    refine Sum_len (n := b.length) (m := b.drop (64 * j) ++ [128] ++ List.replicate ((119 - b.length % 64) % 64) 0) hN (by simp; omega) (by simp; omega) (by
      have el : (b.drop (64 * j) ++ [128] ++ List.replicate ((119 - b.length % 64) % 64) 0).length = (b.drop (64 * j)).length + 1 + (119 - b.length % 64) % 64 := by simp; omega
      rw [el]; exact h) fun w h => ?_
    have e1 := pad_drop hj
    have e2 : fold st0 b j = fold st0 (padded b) j := fold_congr (pad_take hj).symm
    rw [← e1, e2, fold_add]
    have e3 : j + ((padded b).drop (64 * j)).length / 64 = (padded b).length / 64 := by
      have h1 := padded_length b
      have h2 : b.length ≤ (padded b).length := by simp [padded]
      rw [List.length_drop]
      omega
    rw [e3]
    exact k _ h
end Go.Proofs.YtjeiojibnmfibaaDoor
