/-
  The reference's SHA-256, whole.
-/
import Derived.Test.YtjeiojibnmfibaaGreatDoorHshL
import Derived.Test.YtjeiojibnmfibaaGreatDoorPB
import Derived.Test.YtjeiojibnmfibaaGreatDoorStructs
set_option linter.all false
set_option maxRecDepth 10000
namespace Go.Proofs.YtjeiojibnmfibaaGreatDoor
open Go Hold
variable {E : World0} {w : World} {H R : HP} {K : Value → World → Prop}
theorem o_quo {P : Program} {t : TypeId} {k : IntKind} {a b : Int} {K : Value → World → Prop} (hb : b ≠ 0) : pvv P (binOp .quo t (.int k a) (.int k b)) w K = K (.int k (k.wrap (a.tdiv b))) w := pvv_eq fun _ => by simp [binOp, Op.intDiv, hb]
theorem shr0 (x : UInt32) : x >>> UInt32.ofNat 0 = x := by
  apply UInt32.toNat_inj.1
  rw [UInt32.toNat_shiftRight]
  simp
theorem digest_get (st : St) : ∀ i, i < 32 → (digest st)[i]? = some ((st.list.getD (i / 4) 0) >>> UInt32.ofNat (24 - 8 * (i % 4))).toUInt8
  | 0, _ => rfl
  | 1, _ => rfl
  | 2, _ => rfl
  | 3, _ => congrArg (fun x : UInt32 => some x.toUInt8) (shr0 st.a).symm
  | 4, _ => rfl
  | 5, _ => rfl
  | 6, _ => rfl
  | 7, _ => congrArg (fun x : UInt32 => some x.toUInt8) (shr0 st.b).symm
  | 8, _ => rfl
  | 9, _ => rfl
  | 10, _ => rfl
  | 11, _ => congrArg (fun x : UInt32 => some x.toUInt8) (shr0 st.c).symm
  | 12, _ => rfl
  | 13, _ => rfl
  | 14, _ => rfl
  | 15, _ => congrArg (fun x : UInt32 => some x.toUInt8) (shr0 st.d).symm
  | 16, _ => rfl
  | 17, _ => rfl
  | 18, _ => rfl
  | 19, _ => congrArg (fun x : UInt32 => some x.toUInt8) (shr0 st.e).symm
  | 20, _ => rfl
  | 21, _ => rfl
  | 22, _ => rfl
  | 23, _ => congrArg (fun x : UInt32 => some x.toUInt8) (shr0 st.f).symm
  | 24, _ => rfl
  | 25, _ => rfl
  | 26, _ => rfl
  | 27, _ => congrArg (fun x : UInt32 => some x.toUInt8) (shr0 st.g).symm
  | 28, _ => rfl
  | 29, _ => rfl
  | 30, _ => rfl
  | 31, _ => congrArg (fun x : UInt32 => some x.toUInt8) (shr0 st.h).symm
  | n + 32, h => by omega
theorem r_out {bh bo : Nat} {st : St} (h : sat E w (pts bh (.cells (st.list.map wv).toArray 100 (0, 0)) * (pts bo (.cells (List.replicate 32 (bv 0)).toArray 44 (0, 0)) * H)))
    (k : ∀ w', sat E w' H → K (.agg ((digest st).map bv).toArray) w') :
        efv prog (Instr.alloc 44 true (.tuple #[])) w fun out_228 w =>
        lp (fun σ w again_230 => pop σ fun i_229 σ => fin σ <|
          pvv prog (binOp .lss 3 i_229 (.int .i64 32)) w fun t_231 w =>
          cd t_231 (
            pvv prog (binOp .quo 3 i_229 (.int .i64 4)) w fun t_232 w =>
            pvv prog (Instr.indexAt 101 (.slice (some ⟨bh, 0, none⟩) 8 8) t_232) w fun t_233 w =>
            ldv prog (Instr.loadAt 100 t_233) w fun t_234 w =>
            pvv prog (binOp .rem 3 i_229 (.int .i64 4)) w fun t_235 w =>
            pvv prog (binOp .mul 3 (.int .i64 8) t_235) w fun t_236 w =>
            pvv prog (binOp .sub 3 (.int .i64 24) t_236) w fun t_237 w =>
            pvv prog (binOp .shr 100 t_234 t_237) w fun t_238 w =>
            pvv prog (convert 100 5 t_238) w fun t_239 w =>
            pvv prog (Instr.indexAt 44 out_228 i_229) w fun t_240 w =>
            efu prog (Instr.storeAt 5 t_240 t_239) w fun u_241 w =>
            pvv prog (binOp .add 3 i_229 (.int .i64 1)) w fun t_242 w =>
            again_230 [t_242] w) <|
          ldv prog (Instr.loadAt 44 out_228) w fun t_243 w =>
          efu prog (Instr.storeAt 44 (.pointer (some ⟨bo, 0, none⟩)) t_243) w fun u_244 w =>
          ∃ r_245, (do loadVar 44 (← asAddr (.pointer (some ⟨bo, 0, none⟩)))).run prog w = .ok r_245 w ∧ K r_245 w) [(.int .i64 0)] w := by
  refine alloc_sl h fun b5 w h => ?_
  have h : sat E w (pts b5 (.cells (List.replicate 32 (bv 0)).toArray 44 (0, 0)) * (pts bh (.cells (st.list.map wv).toArray 100 (0, 0)) * (pts bo (.cells (List.replicate 32 (bv 0)).toArray 44 (0, 0)) * H))) := h
  have hdl : ((digest st).map bv).length = 32 := by rw [List.length_map, digest_length]
  refine lp_nat (fun m σ w => ∃ i : Nat, σ = [.int .i64 i] ∧ m = 32 - i ∧ i ≤ 32 ∧
    sat E w (pts b5 (.cells (((digest st).map bv).take i ++ (List.replicate 32 (bv 0)).drop i).toArray 44 (0, 0)) * (pts bh (.cells (st.list.map wv).toArray 100 (0, 0)) * (pts bo (.cells (List.replicate 32 (bv 0)).toArray 44 (0, 0)) * H)))) 32 ⟨0, rfl, rfl, by omega, h⟩ ?_
  rintro m σ w again ⟨i, rfl, rfl, hi, h⟩ hag
  rw [pop_cons, fin_nil, o_lss]
  refine cd_dec (fun hlt => ?_) (fun hge => ?_)
  · have hlt : i < 32 := by omega
    have e0 : IntKind.i64.wrap ((i : Int).tdiv 4) = ((i / 4 : Nat) : Int) := by
      rw [Int.tdiv_eq_ediv_of_nonneg (by omega), i64_of (by omega) (by omega)]; omega
    have e1 : (i : Int).tmod 4 = ((i % 4 : Nat) : Int) := by
      rw [Int.tmod_eq_emod_of_nonneg (by omega)]; omega
    have e2 : IntKind.i64.wrap (8 * ((i % 4 : Nat) : Int)) = ((8 * (i % 4) : Nat) : Int) := by rw [i64_of (by omega) (by omega)]; omega
    have e3 : IntKind.i64.wrap (24 - ((8 * (i % 4) : Nat) : Int)) = ((24 - 8 * (i % 4) : Nat) : Int) := by rw [i64_of (by omega) (by omega)]; omega
    rw [o_quo (by decide), e0, o_index (by omega) (by omega)]
    refine ld_in (b := bh) (o := 0 + ((i / 4 : Nat) : Int).toNat * 1) (v := wv (st.list.getD (i / 4) 0)) h (by
      have e : 0 + ((i / 4 : Nat) : Int).toNat * 1 = i / 4 := by rw [Int.toNat_natCast]; omega
      rw [e]; exact getwv' (by rw [St.len]; omega)) ?_
    rw [o_rem (by decide), e1, o_mul, e2, o_sub, e3, o_shrW (by omega), o_convWB, o_indexA (by omega) (by omega)]
    refine store_sl (b := b5) (o := 0 + (i : Int).toNat) h rfl (by simp [digest_length]; omega) fun w h => ?_
    rw [o_add, i64_of (by omega) (by omega)]
    refine hag (32 - (i + 1)) _ _ (by omega) ⟨i + 1, rfl, rfl, by omega, ?_⟩
    have e4 : (((digest st).map bv).take i ++ (List.replicate 32 (bv 0)).drop i).set (0 + (i : Int).toNat) (bv ((st.list.getD (i / 4) 0) >>> UInt32.ofNat (24 - 8 * (i % 4))).toUInt8) = ((digest st).map bv).take (i + 1) ++ (List.replicate 32 (bv 0)).drop (i + 1) := by
      rw [Nat.zero_add, Int.toNat_natCast]
      refine take_drop_set hdl (by simp) hlt ?_
      rw [List.getElem?_map, digest_get st i hlt]
      rfl
    rw [e4] at h
    exact h
  · have hi8 : i = 32 := by omega
    subst hi8
    have h : sat E w (pts b5 (.cells ((digest st).map bv).toArray 44 (0, 0)) * (pts bh (.cells (st.list.map wv).toArray 100 (0, 0)) * (pts bo (.cells (List.replicate 32 (bv 0)).toArray 44 (0, 0)) * H))) := by
      have e : ((digest st).map bv).take 32 ++ (List.replicate 32 (bv 0)).drop 32 = (digest st).map bv := by
        rw [List.take_of_length_le (by rw [hdl]; omega)]; simp
      rw [e] at h; exact h
    refine ld_agg (b := b5) h hdl ?_
    refine storeN_sl (b := bo) h (aggC_44).size (vs := (digest st).map bv) (by simp [Value.cells]) hdl (bv_one _) (by simp) fun w h => ?_
    have h : sat E w (pts bo (.cells ((digest st).map bv).toArray 44 (0, 0)) * (pts b5 (.cells ((digest st).map bv).toArray 44 (0, 0)) * (pts bh (.cells (st.list.map wv).toArray 100 (0, 0)) * H))) := by
      have e : (List.replicate 32 (bv 0)).take 0 ++ (digest st).map bv ++ (List.replicate 32 (bv 0)).drop (0 + 32) = (digest st).map bv := by simp
      rw [e] at h; exact h
    exact res_agg (b := bo) h hdl (k _ h.drop.drop.drop)
theorem r_block {q bh bk bm om cm : Nat} {ek : TypeId} {frk : Nat × Nat} {st : St} {m : List UInt8} (hq : 64 * q + 64 ≤ m.length) (hml : m.length ≤ 140737488355328)
    (h : sat E w (pts bh (.cells (st.list.map wv).toArray 100 (0, 0)) * H)) [hbk : Has H bk (.cells (K0.map wv).toArray ek frk)] (hm : Rds H (.slice (some ⟨bm, om, none⟩) m.length cm) m.length (m.map bv)) {k : List Value → World → Prop}
    (hk : ∀ w, sat E w (pts bh (.cells ((mix K0 st (m.drop (64 * q))).list.map wv).toArray 100 (0, 0)) * H) → k [.int .i64 ((64 * (q + 1) : Nat) : Int)] w) :
          efv prog (Instr.makeSlice 101 (.int .i64 64) (.int .i64 64)) w fun t_31 w =>
          lp (fun σ w again_33 => pop σ fun i_32 σ => fin σ <|
            pvv prog (binOp .lss 3 i_32 (.int .i64 16)) w fun t_34 w =>
            cd t_34 (
              lp (fun σ w again_36 => pop σ fun j_35 σ => fin σ <|
                pvv prog (binOp .lss 3 j_35 (.int .i64 4)) w fun t_37 w =>
                cd t_37 (
                  dr w fun w =>
                  pvv prog (Instr.indexAt 101 t_31 i_32) w fun t_38 w =>
                  pvv prog (binOp .mul 3 (.int .i64 4) i_32) w fun t_39 w =>
                  pvv prog (binOp .add 3 (.int .i64 ((64 * q : Nat) : Int)) t_39) w fun t_40 w =>
                  pvv prog (binOp .add 3 t_40 j_35) w fun t_41 w =>
                  pvv prog (Instr.indexAt 74 (.slice (some ⟨bm, om, none⟩) m.length cm) t_41) w fun t_42 w =>
                  bindS (vN (Instr.loadAt 100 t_38)) fun m_44 => ldv prog (Instr.loadAt 100 t_38) w fun t_43 w =>
                  pvv prog (binOp .shl 100 t_43 (.int .u64 8)) w fun t_45 w =>
                  bindS (vN (Instr.loadAt 5 t_42)) fun m_47 => ldv prog (Instr.loadAt 5 t_42) w fun t_46 w =>
                  pvv prog (convert 5 100 t_46) w fun t_48 w =>
                  pvv prog (binOp .or 100 t_45 t_48) w fun t_49 w =>
                  pvv prog (Instr.indexAt 101 t_31 i_32) w fun t_50 w =>
                  efu prog (Instr.storeAt 100 t_50 t_49) w fun u_51 w =>
                  pvv prog (binOp .add 3 j_35 (.int .i64 1)) w fun t_52 w =>
                  again_36 [t_52] w) <|
                pvv prog (binOp .add 3 i_32 (.int .i64 1)) w fun t_54 w =>
                again_33 [t_54] w) [(.int .i64 0)] w) <|
            lp (fun σ w again_56 => pop σ fun i_55 σ => fin σ <|
              pvv prog (binOp .lss 3 i_55 (.int .i64 64)) w fun t_57 w =>
              cd t_57 (
                dr w fun w =>
                pvv prog (binOp .sub 3 i_55 (.int .i64 15)) w fun t_58 w =>
                pvv prog (Instr.indexAt 101 t_31 t_58) w fun t_59 w =>
                pvv prog (binOp .sub 3 i_55 (.int .i64 2)) w fun t_60 w =>
                pvv prog (Instr.indexAt 101 t_31 t_60) w fun t_61 w =>
                bindS (vN (Instr.loadAt 100 t_59)) fun m_63 => ldv prog (Instr.loadAt 100 t_59) w fun t_62 w =>
                bindS (vN (Instr.loadAt 100 t_61)) fun m_65 => ldv prog (Instr.loadAt 100 t_61) w fun t_64 w =>
                dr w fun w =>
                pvv prog (binOp .sub 3 i_55 (.int .i64 16)) w fun t_66 w =>
                pvv prog (Instr.indexAt 101 t_31 t_66) w fun t_67 w =>
                pvv prog (binOp .shr 100 t_62 (.int .u64 3)) w fun t_68 w =>
                pvv prog (binOp .sub 3 i_55 (.int .i64 7)) w fun t_69 w =>
                pvv prog (Instr.indexAt 101 t_31 t_69) w fun t_70 w =>
                pvv prog (binOp .shr 100 t_64 (.int .u64 10)) w fun t_71 w =>
                bindS (vN (Instr.loadAt 100 t_67)) fun m_73 => ldv prog (Instr.loadAt 100 t_67) w fun t_72 w =>
                bindS (vN (Instr.loadAt 100 t_70)) fun m_75 => ldv prog (Instr.loadAt 100 t_70) w fun t_74 w =>
                Calls prog 56 #[t_62, (.int .i64 7)] w (Ret fun t_76 w => stay prog none m_75 t_74 w <| stay prog none m_73 t_72 w <| 
                Calls prog 56 #[t_62, (.int .i64 18)] w (Ret fun t_77 w => stay prog none m_75 t_74 w <| stay prog none m_73 t_72 w <| 
                pvv prog (binOp .xor 100 t_76 t_77) w fun t_78 w =>
                pvv prog (binOp .xor 100 t_78 t_68) w fun t_79 w =>
                pvv prog (binOp .add 100 t_72 t_79) w fun t_80 w =>
                pvv prog (binOp .add 100 t_80 t_74) w fun t_81 w =>
                Calls prog 56 #[t_64, (.int .i64 17)] w (Ret fun t_82 w => stay prog none m_75 t_74 w <| stay prog none m_73 t_72 w <| 
                Calls prog 56 #[t_64, (.int .i64 19)] w (Ret fun t_83 w => stay prog none m_75 t_74 w <| stay prog none m_73 t_72 w <| 
                pvv prog (binOp .xor 100 t_82 t_83) w fun t_84 w =>
                pvv prog (binOp .xor 100 t_84 t_71) w fun t_85 w =>
                pvv prog (binOp .add 100 t_81 t_85) w fun t_86 w =>
                pvv prog (Instr.indexAt 101 t_31 i_55) w fun t_87 w =>
                efu prog (Instr.storeAt 100 t_87 t_86) w fun u_88 w =>
                pvv prog (binOp .add 3 i_55 (.int .i64 1)) w fun t_89 w =>
                again_56 [t_89] w))))) <|
              ef prog (oBi .append #[101, 101] 101 #[false, false] #[(.slice none 0 0), (.slice (some ⟨bh, 0, none⟩) 8 8)]) w fun t_95 w =>
              lp (fun σ w again_98 => pop σ fun v_96 σ => pop σ fun i_97 σ => fin σ <|
                pvv prog (binOp .lss 3 i_97 (.int .i64 64)) w fun t_99 w =>
                cd t_99 (
                  dr w fun w =>
                  pvv prog (Instr.indexAt 101 v_96 (.int .i64 4)) w fun t_100 w =>
                  pvv prog (Instr.indexAt 101 v_96 (.int .i64 4)) w fun t_101 w =>
                  pvv prog (Instr.indexAt 101 v_96 (.int .i64 4)) w fun t_102 w =>
                  bindS (vN (Instr.loadAt 100 t_100)) fun m_104 => ldv prog (Instr.loadAt 100 t_100) w fun t_103 w =>
                  bindS (vN (Instr.loadAt 100 t_101)) fun m_106 => ldv prog (Instr.loadAt 100 t_101) w fun t_105 w =>
                  bindS (vN (Instr.loadAt 100 t_102)) fun m_108 => ldv prog (Instr.loadAt 100 t_102) w fun t_107 w =>
                  Calls prog 56 #[t_103, (.int .i64 6)] w (Ret fun t_109 w => stay prog none m_108 t_107 w <| stay prog none m_106 t_105 w <| 
                  Calls prog 56 #[t_105, (.int .i64 11)] w (Ret fun t_110 w => stay prog none m_108 t_107 w <| stay prog none m_104 t_103 w <| 
                  pvv prog (binOp .xor 100 t_109 t_110) w fun t_111 w =>
                  Calls prog 56 #[t_107, (.int .i64 25)] w (Ret fun t_112 w => stay prog none m_106 t_105 w <| stay prog none m_104 t_103 w <| 
                  pvv prog (binOp .xor 100 t_111 t_112) w fun t_113 w =>
                  dr w fun w =>
                  pvv prog (Instr.indexAt 101 v_96 (.int .i64 4)) w fun t_114 w =>
                  pvv prog (Instr.indexAt 101 v_96 (.int .i64 5)) w fun t_115 w =>
                  pvv prog (Instr.indexAt 101 v_96 (.int .i64 4)) w fun t_116 w =>
                  pvv prog (Instr.indexAt 101 v_96 (.int .i64 6)) w fun t_117 w =>
                  bindS (vN (Instr.loadAt 100 t_114)) fun m_119 => ldv prog (Instr.loadAt 100 t_114) w fun t_118 w =>
                  bindS (vN (Instr.loadAt 100 t_115)) fun m_121 => ldv prog (Instr.loadAt 100 t_115) w fun t_120 w =>
                  pvv prog (binOp .and 100 t_118 t_120) w fun t_122 w =>
                  bindS (vN (Instr.loadAt 100 t_116)) fun m_124 => ldv prog (Instr.loadAt 100 t_116) w fun t_123 w =>
                  pvv prog (Op.unary .xor t_123) w fun t_125 w =>
                  bindS (vN (Instr.loadAt 100 t_117)) fun m_127 => ldv prog (Instr.loadAt 100 t_117) w fun t_126 w =>
                  pvv prog (binOp .and 100 t_125 t_126) w fun t_128 w =>
                  pvv prog (binOp .xor 100 t_122 t_128) w fun t_129 w =>
                  dr w fun w =>
                  pvv prog (Instr.indexAt 101 v_96 (.int .i64 7)) w fun t_130 w =>
                  pvv prog (Instr.indexAt 101 (.slice (some ⟨bk, 0, none⟩) 64 64) i_97) w fun t_131 w =>
                  pvv prog (Instr.indexAt 101 t_31 i_97) w fun t_132 w =>
                  bindS (vN (Instr.loadAt 100 t_130)) fun m_134 => ldv prog (Instr.loadAt 100 t_130) w fun t_133 w =>
                  pvv prog (binOp .add 100 t_133 t_113) w fun t_135 w =>
                  pvv prog (binOp .add 100 t_135 t_129) w fun t_136 w =>
                  bindS (vN (Instr.loadAt 100 t_131)) fun m_138 => ldv prog (Instr.loadAt 100 t_131) w fun t_137 w =>
                  pvv prog (binOp .add 100 t_136 t_137) w fun t_139 w =>
                  bindS (vN (Instr.loadAt 100 t_132)) fun m_141 => ldv prog (Instr.loadAt 100 t_132) w fun t_140 w =>
                  pvv prog (binOp .add 100 t_139 t_140) w fun t_142 w =>
                  dr w fun w =>
                  pvv prog (Instr.indexAt 101 v_96 (.int .i64 0)) w fun t_143 w =>
                  pvv prog (Instr.indexAt 101 v_96 (.int .i64 0)) w fun t_144 w =>
                  pvv prog (Instr.indexAt 101 v_96 (.int .i64 0)) w fun t_145 w =>
                  bindS (vN (Instr.loadAt 100 t_143)) fun m_147 => ldv prog (Instr.loadAt 100 t_143) w fun t_146 w =>
                  bindS (vN (Instr.loadAt 100 t_144)) fun m_149 => ldv prog (Instr.loadAt 100 t_144) w fun t_148 w =>
                  bindS (vN (Instr.loadAt 100 t_145)) fun m_151 => ldv prog (Instr.loadAt 100 t_145) w fun t_150 w =>
                  Calls prog 56 #[t_146, (.int .i64 2)] w (Ret fun t_152 w => stay prog none m_151 t_150 w <| stay prog none m_149 t_148 w <| 
                  Calls prog 56 #[t_148, (.int .i64 13)] w (Ret fun t_153 w => stay prog none m_151 t_150 w <| stay prog none m_147 t_146 w <| 
                  pvv prog (binOp .xor 100 t_152 t_153) w fun t_154 w =>
                  Calls prog 56 #[t_150, (.int .i64 22)] w (Ret fun t_155 w => stay prog none m_149 t_148 w <| stay prog none m_147 t_146 w <| 
                  pvv prog (binOp .xor 100 t_154 t_155) w fun t_156 w =>
                  dr w fun w =>
                  pvv prog (Instr.indexAt 101 v_96 (.int .i64 0)) w fun t_157 w =>
                  pvv prog (Instr.indexAt 101 v_96 (.int .i64 1)) w fun t_158 w =>
                  pvv prog (Instr.indexAt 101 v_96 (.int .i64 0)) w fun t_159 w =>
                  pvv prog (Instr.indexAt 101 v_96 (.int .i64 2)) w fun t_160 w =>
                  pvv prog (Instr.indexAt 101 v_96 (.int .i64 1)) w fun t_161 w =>
                  pvv prog (Instr.indexAt 101 v_96 (.int .i64 2)) w fun t_162 w =>
                  bindS (vN (Instr.loadAt 100 t_157)) fun m_164 => ldv prog (Instr.loadAt 100 t_157) w fun t_163 w =>
                  bindS (vN (Instr.loadAt 100 t_158)) fun m_166 => ldv prog (Instr.loadAt 100 t_158) w fun t_165 w =>
                  pvv prog (binOp .and 100 t_163 t_165) w fun t_167 w =>
                  bindS (vN (Instr.loadAt 100 t_159)) fun m_169 => ldv prog (Instr.loadAt 100 t_159) w fun t_168 w =>
                  bindS (vN (Instr.loadAt 100 t_160)) fun m_171 => ldv prog (Instr.loadAt 100 t_160) w fun t_170 w =>
                  pvv prog (binOp .and 100 t_168 t_170) w fun t_172 w =>
                  pvv prog (binOp .xor 100 t_167 t_172) w fun t_173 w =>
                  bindS (vN (Instr.loadAt 100 t_161)) fun m_175 => ldv prog (Instr.loadAt 100 t_161) w fun t_174 w =>
                  bindS (vN (Instr.loadAt 100 t_162)) fun m_177 => ldv prog (Instr.loadAt 100 t_162) w fun t_176 w =>
                  pvv prog (binOp .and 100 t_174 t_176) w fun t_178 w =>
                  pvv prog (binOp .xor 100 t_173 t_178) w fun t_179 w =>
                  dr w fun w =>
                  pvv prog (binOp .add 100 t_142 t_156) w fun t_180 w =>
                  pvv prog (binOp .add 100 t_180 t_179) w fun t_181 w =>
                  pvv prog (Instr.indexAt 101 v_96 (.int .i64 0)) w fun t_182 w =>
                  pvv prog (Instr.indexAt 101 v_96 (.int .i64 1)) w fun t_183 w =>
                  pvv prog (Instr.indexAt 101 v_96 (.int .i64 2)) w fun t_184 w =>
                  pvv prog (Instr.indexAt 101 v_96 (.int .i64 3)) w fun t_185 w =>
                  pvv prog (Instr.indexAt 101 v_96 (.int .i64 4)) w fun t_186 w =>
                  pvv prog (Instr.indexAt 101 v_96 (.int .i64 5)) w fun t_187 w =>
                  pvv prog (Instr.indexAt 101 v_96 (.int .i64 6)) w fun t_188 w =>
                  bindS (vN (Instr.loadAt 100 t_182)) fun m_190 => ldv prog (Instr.loadAt 100 t_182) w fun t_189 w =>
                  bindS (vN (Instr.loadAt 100 t_183)) fun m_192 => ldv prog (Instr.loadAt 100 t_183) w fun t_191 w =>
                  bindS (vN (Instr.loadAt 100 t_184)) fun m_194 => ldv prog (Instr.loadAt 100 t_184) w fun t_193 w =>
                  bindS (vN (Instr.loadAt 100 t_185)) fun m_196 => ldv prog (Instr.loadAt 100 t_185) w fun t_195 w =>
                  pvv prog (binOp .add 100 t_195 t_142) w fun t_197 w =>
                  bindS (vN (Instr.loadAt 100 t_186)) fun m_199 => ldv prog (Instr.loadAt 100 t_186) w fun t_198 w =>
                  bindS (vN (Instr.loadAt 100 t_187)) fun m_201 => ldv prog (Instr.loadAt 100 t_187) w fun t_200 w =>
                  bindS (vN (Instr.loadAt 100 t_188)) fun m_203 => ldv prog (Instr.loadAt 100 t_188) w fun t_202 w =>
                  efv prog (Instr.buildSlice 101 8 #[(0, t_181), (1, t_189), (2, t_191), (3, t_193), (4, t_197), (5, t_198), (6, t_200), (7, t_202)]) w fun t_204 w => stay prog none m_196 t_195 w <| 
                  pvv prog (binOp .add 3 i_97 (.int .i64 1)) w fun t_205 w =>
                  again_98 [t_204, t_205] w))))))) <|
                lp (fun σ w again_214 => pop σ fun i_213 σ => fin σ <|
                  pvv prog (binOp .lss 3 i_213 (.int .i64 8)) w fun t_215 w =>
                  cd t_215 (
                    dr w fun w =>
                    pvv prog (Instr.indexAt 101 (.slice (some ⟨bh, 0, none⟩) 8 8) i_213) w fun t_216 w =>
                    pvv prog (Instr.indexAt 101 v_96 i_213) w fun t_217 w =>
                    bindS (vN (Instr.loadAt 100 t_216)) fun m_219 => ldv prog (Instr.loadAt 100 t_216) w fun t_218 w =>
                    bindS (vN (Instr.loadAt 100 t_217)) fun m_221 => ldv prog (Instr.loadAt 100 t_217) w fun t_220 w =>
                    pvv prog (binOp .add 100 t_218 t_220) w fun t_222 w =>
                    pvv prog (Instr.indexAt 101 (.slice (some ⟨bh, 0, none⟩) 8 8) i_213) w fun t_223 w =>
                    efu prog (Instr.storeAt 100 t_223 t_222) w fun u_224 w =>
                    pvv prog (binOp .add 3 i_213 (.int .i64 1)) w fun t_225 w =>
                    again_214 [t_225] w) <|
                  pvv prog (binOp .add 3 (.int .i64 ((64 * q : Nat) : Int)) (.int .i64 64)) w fun t_227 w =>
                  k [t_227] w) [(.int .i64 0)] w) [t_95, (.int .i64 0)] w) [(.int .i64 16)] w) [(.int .i64 0)] w := by
  refine make_sl h rfl (by decide) (by decide) (by decide) (by decide) fun b3 w h => ?_
  have h : sat E w (pts b3 (.cells (List.replicate 64 (wv 0)).toArray 100 (0, 0)) * (pts bh (.cells (st.list.map wv).toArray 100 (0, 0)) * H)) := h
  generalize hmd : m.drop (64 * q) = md
  refine lp_nat (fun c σ w => ∃ i : Nat, σ = [.int .i64 i] ∧ c = 16 - i ∧ i ≤ 16 ∧
    sat E w (pts b3 (.cells ((sched md i).map wv ++ List.replicate (64 - i) (wv 0)).toArray 100 (0, 0)) * (pts bh (.cells (st.list.map wv).toArray 100 (0, 0)) * H))) 16 ⟨0, rfl, rfl, by omega, h⟩ ?_
  rintro c σ w again ⟨i, rfl, rfl, hi, h⟩ hag
  rw [pop_cons, fin_nil, o_lss]
  refine cd_dec (fun hlt => ?_) (fun hge => ?_)
  · have h16 : i < 16 := by omega
    refine r_word h16 (sched_length md i) hq hml h hm.right fun w h => ?_
    refine hag (16 - (i + 1)) _ _ (by omega) ⟨i + 1, rfl, rfl, by omega, ?_⟩
    have e : sched md (i + 1) = sched md i ++ [word (m.drop (64 * q)) i] := by simp [sched, h16, hmd]
    rw [e]; exact h
  have hi16 : i = 16 := by omega
  subst hi16
  clear hag hge
  refine lp_nat (fun c σ w => ∃ i : Nat, σ = [.int .i64 i] ∧ c = 64 - i ∧ 16 ≤ i ∧ i ≤ 64 ∧
    sat E w (pts b3 (.cells ((sched md i).map wv ++ List.replicate (64 - i) (wv 0)).toArray 100 (0, 0)) * (pts bh (.cells (st.list.map wv).toArray 100 (0, 0)) * H))) 48 ⟨16, rfl, rfl, by omega, by omega, h⟩ ?_
  rintro c σ w again ⟨i, rfl, rfl, hi1, hi, h⟩ hag
  rw [pop_cons, fin_nil, o_lss]
  refine cd_dec (fun hlt => ?_) (fun hge => ?_)
  · refine r_late (b3 := b3) h (by omega) hi1 (sched_length md i) fun w h => ?_
    refine hag (64 - (i + 1)) _ _ (by omega) ⟨i + 1, rfl, rfl, by omega, by omega, ?_⟩
    have h16' : ¬ i < 16 := by omega
    have e : sched md (i + 1) = sched md i ++ [wNext (sched md i) i] := by simp [sched, h16']
    rw [e]; exact h
  have hi64 : i = 64 := by omega
  subst hi64
  clear hag hge
  have h : sat E w (pts b3 (.cells ((sched md 64).map wv).toArray 100 (0, 0)) * (pts bh (.cells (st.list.map wv).toArray 100 (0, 0)) * H)) := by simpa using h
  refine append_sl (osl_nil h 100 1) (st.list.map wv) (by simp [St.len]) (.inr ⟨bh, 0, _, _, _, rfl, Has.get h, fun j u hj => by simpa using hj⟩) (wv_one _) (by decide) (by decide) fun v w h => ?_
  obtain ⟨bq, cq, sp, rfl, _, hcq, h, _⟩ := osl_open h (by decide)
  simp only [List.nil_append, Nat.zero_add] at h hcq ⊢
  refine lp_nat (fun c σ w => ∃ (i bq cq : Nat) (e : TypeId) (sp : List Value), σ = [.slice (some ⟨bq, 0, none⟩) 8 cq, .int .i64 i] ∧ c = 64 - i ∧ i ≤ 64 ∧
    sat E w (pts bq (.cells ((rounds K0 (sched md 64) st i).list.map wv ++ sp).toArray e (0, 0)) * (pts b3 (.cells ((sched md 64).map wv).toArray 100 (0, 0)) * (pts bh (.cells (st.list.map wv).toArray 100 (0, 0)) * H)))) 64 ⟨0, bq, cq, 100, sp, rfl, rfl, by omega, h⟩ ?_
  clear h
  rintro c σ w again ⟨i, bq, cq, e, sp, rfl, rfl, hi, h⟩ hag
  rw [pop_cons, pop_cons, fin_nil, o_lss]
  refine cd_dec (fun hlt => ?_) (fun hge => ?_)
  · refine r_round (by omega) K0_length (sched_length md 64) h fun w bq' h => ?_
    refine hag (64 - (i + 1)) _ _ (by omega) ⟨i + 1, bq', 8, 100, [], rfl, rfl, by omega, ?_⟩
    rw [List.append_nil]
    exact h
  have hi64 : i = 64 := by omega
  subst hi64
  clear hag hge
  have hmix : (mix K0 st md).list = (st.add (rounds K0 (sched md 64) st 64)).list := rfl
  generalize hv : rounds K0 (sched md 64) st 64 = v at h hmix
  refine lp_nat (fun c σ w => ∃ i : Nat, σ = [.int .i64 i] ∧ c = 8 - i ∧ i ≤ 8 ∧
    sat E w (pts bh (.cells (((mix K0 st md).list.take i ++ st.list.drop i).map wv).toArray 100 (0, 0)) * (pts bq (.cells (v.list.map wv ++ sp).toArray e (0, 0)) * (pts b3 (.cells ((sched md 64).map wv).toArray 100 (0, 0)) * H)))) 8 ⟨0, rfl, rfl, by omega, h.own bh⟩ ?_
  clear h
  rintro c σ w again ⟨i, rfl, rfl, hi, h⟩ hag
  rw [pop_cons, fin_nil, o_lss]
  refine cd_dec (fun hlt => ?_) (fun hge => ?_)
  · have hlt : i < 8 := by omega
    have ix : ∀ {b c : Nat} {w : World} {K : Value → World → Prop}, pvv prog (Instr.indexAt 101 (.slice (some ⟨b, 0, none⟩) 8 c) (.int .i64 (i : Int))) w K = K (.pointer (some ⟨b, i, none⟩)) w := fun {b c w K} => by
      rw [o_index (by omega) (by omega)]; simp
    refine dr_sl h fun w h _ => ?_
    simp only [↓o_nil, ↓o_field, ↓o_add, ↓o_sub, ↓o_mul, ↓o_lss, ↓o_leq, ↓o_gtr, ↓o_geq, ↓o_not, ↓o_pick, ↓o_eqInt, ↓o_neInt, ↓o_eqBool, ↓o_neBool, ↓o_eqPtr, ↓o_nePtr, ↓o_eqPtr', ↓o_eqSl, ↓o_neSl, ↓o_eqStr, ↓o_neStr, ↓o_len, ↓o_lenS, ↓o_min, ↓o_max, ↓o_extract, ↓o_convInt, ↓cd_true, ↓cd_false, ↓gate_tt, ↓gate_ff, ↓gate_tf, ↓gate_ft, ↓gate_undef, ↓o_bind, ↓stay_v, ↓pop_cons, ↓fin_nil, Option.isNone_none, Option.isNone_some, Bool.not_true, Bool.not_false, Nat.zero_add, decide_true, decide_false, if_true, if_false, Bool.false_eq_true, ↓reduceIte, ix]
    have g1 : (((mix K0 st md).list.take i ++ st.list.drop i).map wv)[i]? = some (wv (st.list.getD i 0)) := by
      rw [List.getElem?_map, take_drop_get (St.len _) hlt, ← List.getElem?_map]
      exact getwv' (by rw [St.len]; exact hlt)
    refine ld_in (b := bh) h g1 ?_
    refine ld_in (b := bq) h (getwv (by rw [St.len]; exact hlt)) ?_
    rw [o_addW]
    try rw [ix]
    refine store_sl (b := bh) h rfl (by simp [St.len]; omega) fun w h => ?_
    try rw [o_add]
    rw [i64_of (by omega) (by omega)]
    refine hag (8 - (i + 1)) _ _ (by omega) ⟨i + 1, rfl, rfl, by omega, ?_⟩
    have e1 : (mix K0 st md).list.getD i 0 = st.list.getD i 0 + v.list.getD i 0 := by rw [hmix]; exact St.add_get _ _ hlt
    have e2 : (((mix K0 st md).list.take i ++ st.list.drop i).map wv).set i (wv (st.list.getD i 0 + v.list.getD i 0)) = ((mix K0 st md).list.take (i + 1) ++ st.list.drop (i + 1)).map wv := by
      rw [← List.map_set]
      congr 1
      refine take_drop_set (St.len _) (St.len _) hlt ?_
      rw [← e1]
      have hl : i < (mix K0 st md).list.length := by rw [St.len]; exact hlt
      simp [List.getD_eq_getElem?_getD, hl]
    rw [e2] at h
    exact h
  have hi8 : i = 8 := by omega
  subst hi8
  have e1 : (mix K0 st md).list.take 8 ++ st.list.drop 8 = (mix K0 st md).list := rfl
  rw [e1] at h
  rw [o_add, i64_of (by omega) (by omega)]
  refine hk _ ?_
  rw [hmd]
  exact (h.lose bq).lose b3
theorem r_blocks {bh bo bk : Nat} {ek : TypeId} {frk : Nat × Nat} {m : List UInt8} (hm : m.length % 64 = 0) (hml : m.length ≤ 140737488355328) (hpos : 0 < m.length) {st : St}
    {bm om cm : Nat} (h : sat E w (pts bh (.cells (st.list.map wv).toArray 100 (0, 0)) * (pts bo (.cells (List.replicate 32 (bv 0)).toArray 44 (0, 0)) * H))) [hbk : Has H bk (.cells (K0.map wv).toArray ek frk)]
    (hv : Rds H (.slice (some ⟨bm, om, none⟩) m.length cm) m.length (m.map bv))
    (k : ∀ w', sat E w' H → K (.agg ((digest (fold st m (m.length / 64))).map bv).toArray) w') :
      lp (fun σ w again_28 => pop σ fun at_27 σ => fin σ <|
        pv prog (oBi .len #[74] 3 #[false] #[(.slice (some ⟨bm, om, none⟩) m.length cm)]) w fun t_29 w =>
        pvv prog (binOp .lss 3 at_27 t_29) w fun t_30 w =>
        cd t_30 (
          efv prog (Instr.makeSlice 101 (.int .i64 64) (.int .i64 64)) w fun t_31 w =>
          lp (fun σ w again_33 => pop σ fun i_32 σ => fin σ <|
            pvv prog (binOp .lss 3 i_32 (.int .i64 16)) w fun t_34 w =>
            cd t_34 (
              lp (fun σ w again_36 => pop σ fun j_35 σ => fin σ <|
                pvv prog (binOp .lss 3 j_35 (.int .i64 4)) w fun t_37 w =>
                cd t_37 (
                  dr w fun w =>
                  pvv prog (Instr.indexAt 101 t_31 i_32) w fun t_38 w =>
                  pvv prog (binOp .mul 3 (.int .i64 4) i_32) w fun t_39 w =>
                  pvv prog (binOp .add 3 at_27 t_39) w fun t_40 w =>
                  pvv prog (binOp .add 3 t_40 j_35) w fun t_41 w =>
                  pvv prog (Instr.indexAt 74 (.slice (some ⟨bm, om, none⟩) m.length cm) t_41) w fun t_42 w =>
                  bindS (vN (Instr.loadAt 100 t_38)) fun m_44 => ldv prog (Instr.loadAt 100 t_38) w fun t_43 w =>
                  pvv prog (binOp .shl 100 t_43 (.int .u64 8)) w fun t_45 w =>
                  bindS (vN (Instr.loadAt 5 t_42)) fun m_47 => ldv prog (Instr.loadAt 5 t_42) w fun t_46 w =>
                  pvv prog (convert 5 100 t_46) w fun t_48 w =>
                  pvv prog (binOp .or 100 t_45 t_48) w fun t_49 w =>
                  pvv prog (Instr.indexAt 101 t_31 i_32) w fun t_50 w =>
                  efu prog (Instr.storeAt 100 t_50 t_49) w fun u_51 w =>
                  pvv prog (binOp .add 3 j_35 (.int .i64 1)) w fun t_52 w =>
                  again_36 [t_52] w) <|
                pvv prog (binOp .add 3 i_32 (.int .i64 1)) w fun t_54 w =>
                again_33 [t_54] w) [(.int .i64 0)] w) <|
            lp (fun σ w again_56 => pop σ fun i_55 σ => fin σ <|
              pvv prog (binOp .lss 3 i_55 (.int .i64 64)) w fun t_57 w =>
              cd t_57 (
                dr w fun w =>
                pvv prog (binOp .sub 3 i_55 (.int .i64 15)) w fun t_58 w =>
                pvv prog (Instr.indexAt 101 t_31 t_58) w fun t_59 w =>
                pvv prog (binOp .sub 3 i_55 (.int .i64 2)) w fun t_60 w =>
                pvv prog (Instr.indexAt 101 t_31 t_60) w fun t_61 w =>
                bindS (vN (Instr.loadAt 100 t_59)) fun m_63 => ldv prog (Instr.loadAt 100 t_59) w fun t_62 w =>
                bindS (vN (Instr.loadAt 100 t_61)) fun m_65 => ldv prog (Instr.loadAt 100 t_61) w fun t_64 w =>
                dr w fun w =>
                pvv prog (binOp .sub 3 i_55 (.int .i64 16)) w fun t_66 w =>
                pvv prog (Instr.indexAt 101 t_31 t_66) w fun t_67 w =>
                pvv prog (binOp .shr 100 t_62 (.int .u64 3)) w fun t_68 w =>
                pvv prog (binOp .sub 3 i_55 (.int .i64 7)) w fun t_69 w =>
                pvv prog (Instr.indexAt 101 t_31 t_69) w fun t_70 w =>
                pvv prog (binOp .shr 100 t_64 (.int .u64 10)) w fun t_71 w =>
                bindS (vN (Instr.loadAt 100 t_67)) fun m_73 => ldv prog (Instr.loadAt 100 t_67) w fun t_72 w =>
                bindS (vN (Instr.loadAt 100 t_70)) fun m_75 => ldv prog (Instr.loadAt 100 t_70) w fun t_74 w =>
                Calls prog 56 #[t_62, (.int .i64 7)] w (Ret fun t_76 w => stay prog none m_75 t_74 w <| stay prog none m_73 t_72 w <| 
                Calls prog 56 #[t_62, (.int .i64 18)] w (Ret fun t_77 w => stay prog none m_75 t_74 w <| stay prog none m_73 t_72 w <| 
                pvv prog (binOp .xor 100 t_76 t_77) w fun t_78 w =>
                pvv prog (binOp .xor 100 t_78 t_68) w fun t_79 w =>
                pvv prog (binOp .add 100 t_72 t_79) w fun t_80 w =>
                pvv prog (binOp .add 100 t_80 t_74) w fun t_81 w =>
                Calls prog 56 #[t_64, (.int .i64 17)] w (Ret fun t_82 w => stay prog none m_75 t_74 w <| stay prog none m_73 t_72 w <| 
                Calls prog 56 #[t_64, (.int .i64 19)] w (Ret fun t_83 w => stay prog none m_75 t_74 w <| stay prog none m_73 t_72 w <| 
                pvv prog (binOp .xor 100 t_82 t_83) w fun t_84 w =>
                pvv prog (binOp .xor 100 t_84 t_71) w fun t_85 w =>
                pvv prog (binOp .add 100 t_81 t_85) w fun t_86 w =>
                pvv prog (Instr.indexAt 101 t_31 i_55) w fun t_87 w =>
                efu prog (Instr.storeAt 100 t_87 t_86) w fun u_88 w =>
                pvv prog (binOp .add 3 i_55 (.int .i64 1)) w fun t_89 w =>
                again_56 [t_89] w))))) <|
              ef prog (oBi .append #[101, 101] 101 #[false, false] #[(.slice none 0 0), (.slice (some ⟨bh, 0, none⟩) 8 8)]) w fun t_95 w =>
              lp (fun σ w again_98 => pop σ fun v_96 σ => pop σ fun i_97 σ => fin σ <|
                pvv prog (binOp .lss 3 i_97 (.int .i64 64)) w fun t_99 w =>
                cd t_99 (
                  dr w fun w =>
                  pvv prog (Instr.indexAt 101 v_96 (.int .i64 4)) w fun t_100 w =>
                  pvv prog (Instr.indexAt 101 v_96 (.int .i64 4)) w fun t_101 w =>
                  pvv prog (Instr.indexAt 101 v_96 (.int .i64 4)) w fun t_102 w =>
                  bindS (vN (Instr.loadAt 100 t_100)) fun m_104 => ldv prog (Instr.loadAt 100 t_100) w fun t_103 w =>
                  bindS (vN (Instr.loadAt 100 t_101)) fun m_106 => ldv prog (Instr.loadAt 100 t_101) w fun t_105 w =>
                  bindS (vN (Instr.loadAt 100 t_102)) fun m_108 => ldv prog (Instr.loadAt 100 t_102) w fun t_107 w =>
                  Calls prog 56 #[t_103, (.int .i64 6)] w (Ret fun t_109 w => stay prog none m_108 t_107 w <| stay prog none m_106 t_105 w <| 
                  Calls prog 56 #[t_105, (.int .i64 11)] w (Ret fun t_110 w => stay prog none m_108 t_107 w <| stay prog none m_104 t_103 w <| 
                  pvv prog (binOp .xor 100 t_109 t_110) w fun t_111 w =>
                  Calls prog 56 #[t_107, (.int .i64 25)] w (Ret fun t_112 w => stay prog none m_106 t_105 w <| stay prog none m_104 t_103 w <| 
                  pvv prog (binOp .xor 100 t_111 t_112) w fun t_113 w =>
                  dr w fun w =>
                  pvv prog (Instr.indexAt 101 v_96 (.int .i64 4)) w fun t_114 w =>
                  pvv prog (Instr.indexAt 101 v_96 (.int .i64 5)) w fun t_115 w =>
                  pvv prog (Instr.indexAt 101 v_96 (.int .i64 4)) w fun t_116 w =>
                  pvv prog (Instr.indexAt 101 v_96 (.int .i64 6)) w fun t_117 w =>
                  bindS (vN (Instr.loadAt 100 t_114)) fun m_119 => ldv prog (Instr.loadAt 100 t_114) w fun t_118 w =>
                  bindS (vN (Instr.loadAt 100 t_115)) fun m_121 => ldv prog (Instr.loadAt 100 t_115) w fun t_120 w =>
                  pvv prog (binOp .and 100 t_118 t_120) w fun t_122 w =>
                  bindS (vN (Instr.loadAt 100 t_116)) fun m_124 => ldv prog (Instr.loadAt 100 t_116) w fun t_123 w =>
                  pvv prog (Op.unary .xor t_123) w fun t_125 w =>
                  bindS (vN (Instr.loadAt 100 t_117)) fun m_127 => ldv prog (Instr.loadAt 100 t_117) w fun t_126 w =>
                  pvv prog (binOp .and 100 t_125 t_126) w fun t_128 w =>
                  pvv prog (binOp .xor 100 t_122 t_128) w fun t_129 w =>
                  dr w fun w =>
                  pvv prog (Instr.indexAt 101 v_96 (.int .i64 7)) w fun t_130 w =>
                  pvv prog (Instr.indexAt 101 (.slice (some ⟨bk, 0, none⟩) 64 64) i_97) w fun t_131 w =>
                  pvv prog (Instr.indexAt 101 t_31 i_97) w fun t_132 w =>
                  bindS (vN (Instr.loadAt 100 t_130)) fun m_134 => ldv prog (Instr.loadAt 100 t_130) w fun t_133 w =>
                  pvv prog (binOp .add 100 t_133 t_113) w fun t_135 w =>
                  pvv prog (binOp .add 100 t_135 t_129) w fun t_136 w =>
                  bindS (vN (Instr.loadAt 100 t_131)) fun m_138 => ldv prog (Instr.loadAt 100 t_131) w fun t_137 w =>
                  pvv prog (binOp .add 100 t_136 t_137) w fun t_139 w =>
                  bindS (vN (Instr.loadAt 100 t_132)) fun m_141 => ldv prog (Instr.loadAt 100 t_132) w fun t_140 w =>
                  pvv prog (binOp .add 100 t_139 t_140) w fun t_142 w =>
                  dr w fun w =>
                  pvv prog (Instr.indexAt 101 v_96 (.int .i64 0)) w fun t_143 w =>
                  pvv prog (Instr.indexAt 101 v_96 (.int .i64 0)) w fun t_144 w =>
                  pvv prog (Instr.indexAt 101 v_96 (.int .i64 0)) w fun t_145 w =>
                  bindS (vN (Instr.loadAt 100 t_143)) fun m_147 => ldv prog (Instr.loadAt 100 t_143) w fun t_146 w =>
                  bindS (vN (Instr.loadAt 100 t_144)) fun m_149 => ldv prog (Instr.loadAt 100 t_144) w fun t_148 w =>
                  bindS (vN (Instr.loadAt 100 t_145)) fun m_151 => ldv prog (Instr.loadAt 100 t_145) w fun t_150 w =>
                  Calls prog 56 #[t_146, (.int .i64 2)] w (Ret fun t_152 w => stay prog none m_151 t_150 w <| stay prog none m_149 t_148 w <| 
                  Calls prog 56 #[t_148, (.int .i64 13)] w (Ret fun t_153 w => stay prog none m_151 t_150 w <| stay prog none m_147 t_146 w <| 
                  pvv prog (binOp .xor 100 t_152 t_153) w fun t_154 w =>
                  Calls prog 56 #[t_150, (.int .i64 22)] w (Ret fun t_155 w => stay prog none m_149 t_148 w <| stay prog none m_147 t_146 w <| 
                  pvv prog (binOp .xor 100 t_154 t_155) w fun t_156 w =>
                  dr w fun w =>
                  pvv prog (Instr.indexAt 101 v_96 (.int .i64 0)) w fun t_157 w =>
                  pvv prog (Instr.indexAt 101 v_96 (.int .i64 1)) w fun t_158 w =>
                  pvv prog (Instr.indexAt 101 v_96 (.int .i64 0)) w fun t_159 w =>
                  pvv prog (Instr.indexAt 101 v_96 (.int .i64 2)) w fun t_160 w =>
                  pvv prog (Instr.indexAt 101 v_96 (.int .i64 1)) w fun t_161 w =>
                  pvv prog (Instr.indexAt 101 v_96 (.int .i64 2)) w fun t_162 w =>
                  bindS (vN (Instr.loadAt 100 t_157)) fun m_164 => ldv prog (Instr.loadAt 100 t_157) w fun t_163 w =>
                  bindS (vN (Instr.loadAt 100 t_158)) fun m_166 => ldv prog (Instr.loadAt 100 t_158) w fun t_165 w =>
                  pvv prog (binOp .and 100 t_163 t_165) w fun t_167 w =>
                  bindS (vN (Instr.loadAt 100 t_159)) fun m_169 => ldv prog (Instr.loadAt 100 t_159) w fun t_168 w =>
                  bindS (vN (Instr.loadAt 100 t_160)) fun m_171 => ldv prog (Instr.loadAt 100 t_160) w fun t_170 w =>
                  pvv prog (binOp .and 100 t_168 t_170) w fun t_172 w =>
                  pvv prog (binOp .xor 100 t_167 t_172) w fun t_173 w =>
                  bindS (vN (Instr.loadAt 100 t_161)) fun m_175 => ldv prog (Instr.loadAt 100 t_161) w fun t_174 w =>
                  bindS (vN (Instr.loadAt 100 t_162)) fun m_177 => ldv prog (Instr.loadAt 100 t_162) w fun t_176 w =>
                  pvv prog (binOp .and 100 t_174 t_176) w fun t_178 w =>
                  pvv prog (binOp .xor 100 t_173 t_178) w fun t_179 w =>
                  dr w fun w =>
                  pvv prog (binOp .add 100 t_142 t_156) w fun t_180 w =>
                  pvv prog (binOp .add 100 t_180 t_179) w fun t_181 w =>
                  pvv prog (Instr.indexAt 101 v_96 (.int .i64 0)) w fun t_182 w =>
                  pvv prog (Instr.indexAt 101 v_96 (.int .i64 1)) w fun t_183 w =>
                  pvv prog (Instr.indexAt 101 v_96 (.int .i64 2)) w fun t_184 w =>
                  pvv prog (Instr.indexAt 101 v_96 (.int .i64 3)) w fun t_185 w =>
                  pvv prog (Instr.indexAt 101 v_96 (.int .i64 4)) w fun t_186 w =>
                  pvv prog (Instr.indexAt 101 v_96 (.int .i64 5)) w fun t_187 w =>
                  pvv prog (Instr.indexAt 101 v_96 (.int .i64 6)) w fun t_188 w =>
                  bindS (vN (Instr.loadAt 100 t_182)) fun m_190 => ldv prog (Instr.loadAt 100 t_182) w fun t_189 w =>
                  bindS (vN (Instr.loadAt 100 t_183)) fun m_192 => ldv prog (Instr.loadAt 100 t_183) w fun t_191 w =>
                  bindS (vN (Instr.loadAt 100 t_184)) fun m_194 => ldv prog (Instr.loadAt 100 t_184) w fun t_193 w =>
                  bindS (vN (Instr.loadAt 100 t_185)) fun m_196 => ldv prog (Instr.loadAt 100 t_185) w fun t_195 w =>
                  pvv prog (binOp .add 100 t_195 t_142) w fun t_197 w =>
                  bindS (vN (Instr.loadAt 100 t_186)) fun m_199 => ldv prog (Instr.loadAt 100 t_186) w fun t_198 w =>
                  bindS (vN (Instr.loadAt 100 t_187)) fun m_201 => ldv prog (Instr.loadAt 100 t_187) w fun t_200 w =>
                  bindS (vN (Instr.loadAt 100 t_188)) fun m_203 => ldv prog (Instr.loadAt 100 t_188) w fun t_202 w =>
                  efv prog (Instr.buildSlice 101 8 #[(0, t_181), (1, t_189), (2, t_191), (3, t_193), (4, t_197), (5, t_198), (6, t_200), (7, t_202)]) w fun t_204 w => stay prog none m_196 t_195 w <| 
                  pvv prog (binOp .add 3 i_97 (.int .i64 1)) w fun t_205 w =>
                  again_98 [t_204, t_205] w))))))) <|
                lp (fun σ w again_214 => pop σ fun i_213 σ => fin σ <|
                  pvv prog (binOp .lss 3 i_213 (.int .i64 8)) w fun t_215 w =>
                  cd t_215 (
                    dr w fun w =>
                    pvv prog (Instr.indexAt 101 (.slice (some ⟨bh, 0, none⟩) 8 8) i_213) w fun t_216 w =>
                    pvv prog (Instr.indexAt 101 v_96 i_213) w fun t_217 w =>
                    bindS (vN (Instr.loadAt 100 t_216)) fun m_219 => ldv prog (Instr.loadAt 100 t_216) w fun t_218 w =>
                    bindS (vN (Instr.loadAt 100 t_217)) fun m_221 => ldv prog (Instr.loadAt 100 t_217) w fun t_220 w =>
                    pvv prog (binOp .add 100 t_218 t_220) w fun t_222 w =>
                    pvv prog (Instr.indexAt 101 (.slice (some ⟨bh, 0, none⟩) 8 8) i_213) w fun t_223 w =>
                    efu prog (Instr.storeAt 100 t_223 t_222) w fun u_224 w =>
                    pvv prog (binOp .add 3 i_213 (.int .i64 1)) w fun t_225 w =>
                    again_214 [t_225] w) <|
                  pvv prog (binOp .add 3 at_27 (.int .i64 64)) w fun t_227 w =>
                  again_28 [t_227] w) [(.int .i64 0)] w) [t_95, (.int .i64 0)] w) [(.int .i64 16)] w) [(.int .i64 0)] w) <|
        efv prog (Instr.alloc 44 true (.tuple #[])) w fun out_228 w =>
        lp (fun σ w again_230 => pop σ fun i_229 σ => fin σ <|
          pvv prog (binOp .lss 3 i_229 (.int .i64 32)) w fun t_231 w =>
          cd t_231 (
            pvv prog (binOp .quo 3 i_229 (.int .i64 4)) w fun t_232 w =>
            pvv prog (Instr.indexAt 101 (.slice (some ⟨bh, 0, none⟩) 8 8) t_232) w fun t_233 w =>
            ldv prog (Instr.loadAt 100 t_233) w fun t_234 w =>
            pvv prog (binOp .rem 3 i_229 (.int .i64 4)) w fun t_235 w =>
            pvv prog (binOp .mul 3 (.int .i64 8) t_235) w fun t_236 w =>
            pvv prog (binOp .sub 3 (.int .i64 24) t_236) w fun t_237 w =>
            pvv prog (binOp .shr 100 t_234 t_237) w fun t_238 w =>
            pvv prog (convert 100 5 t_238) w fun t_239 w =>
            pvv prog (Instr.indexAt 44 out_228 i_229) w fun t_240 w =>
            efu prog (Instr.storeAt 5 t_240 t_239) w fun u_241 w =>
            pvv prog (binOp .add 3 i_229 (.int .i64 1)) w fun t_242 w =>
            again_230 [t_242] w) <|
          ldv prog (Instr.loadAt 44 out_228) w fun t_243 w =>
          efu prog (Instr.storeAt 44 (.pointer (some ⟨bo, 0, none⟩)) t_243) w fun u_244 w =>
          ∃ r_245, (do loadVar 44 (← asAddr (.pointer (some ⟨bo, 0, none⟩)))).run prog w = .ok r_245 w ∧ K r_245 w) [(.int .i64 0)] w) [(.int .i64 0)] w := by
  refine lp_nat (fun c σ w => ∃ q : Nat, σ = [.int .i64 ((64 * q : Nat) : Int)] ∧ c = m.length - 64 * q ∧ 64 * q ≤ m.length ∧
    sat E w (pts bh (.cells ((fold st m q).list.map wv).toArray 100 (0, 0)) * (pts bo (.cells (List.replicate 32 (bv 0)).toArray 44 (0, 0)) * H))) m.length ⟨0, rfl, rfl, by omega, h⟩ ?_
  clear h
  rintro c σ w again ⟨q, rfl, rfl, hq, h⟩ hag
  rw [pop_cons, fin_nil, o_len, o_lss]
  refine cd_dec (fun hlt => ?_) (fun hge => ?_)
  · refine r_block (by omega) hml h hv.right fun w h => ?_
    exact hag (m.length - 64 * (q + 1)) _ _ (by omega) ⟨q + 1, rfl, rfl, by omega, h⟩
  · have hq2 : q = m.length / 64 := by omega
    subst hq2
    exact r_out h k
theorem r_len {bh bo bk : Nat} {ek : TypeId} {frk : Nat × Nat} {ve : Value} {m : List UInt8} {n N : Nat} {st : St} (hN : n * 8 % 18446744073709551616 = N) (hm : (m.length + 8) % 64 = 0) (hml : m.length + 8 ≤ 140737488355328)
    (h : sat E w (osl 5 1 ve m.length (m.map bv) * (pts bh (.cells (st.list.map wv).toArray 100 (0, 0)) * (pts bo (.cells (List.replicate 32 (bv 0)).toArray 44 (0, 0)) * H)))) [hbk : Has H bk (.cells (K0.map wv).toArray ek frk)]
    (k : ∀ w', sat E w' H → K (.agg ((digest (fold st (m ++ lenBytes n) ((m ++ lenBytes n).length / 64))).map bv).toArray) w') :
    lp (fun σ w again_18 => pop σ fun m_16 σ => pop σ fun i_17 σ => fin σ <|
      pvv prog (binOp .lss 3 i_17 (.int .i64 8)) w fun t_19 w =>
      cd t_19 (
        pvv prog (binOp .mul 3 (.int .i64 8) i_17) w fun t_20 w =>
        pvv prog (binOp .sub 3 (.int .i64 56) t_20) w fun t_21 w =>
        pvv prog (binOp .shr 94 (.int .u64 (N : Int)) t_21) w fun t_22 w =>
        pvv prog (convert 94 5 t_22) w fun t_23 w =>
        efv prog (Instr.buildSlice 74 1 #[(0, t_23)]) w fun t_24 w =>
        ef prog (oBi .append #[74, 74] 74 #[false, false] #[m_16, t_24]) w fun t_25 w =>
        pvv prog (binOp .add 3 i_17 (.int .i64 1)) w fun t_26 w =>
        again_18 [t_25, t_26] w) <|
      lp (fun σ w again_28 => pop σ fun at_27 σ => fin σ <|
        pv prog (oBi .len #[74] 3 #[false] #[m_16]) w fun t_29 w =>
        pvv prog (binOp .lss 3 at_27 t_29) w fun t_30 w =>
        cd t_30 (
          efv prog (Instr.makeSlice 101 (.int .i64 64) (.int .i64 64)) w fun t_31 w =>
          lp (fun σ w again_33 => pop σ fun i_32 σ => fin σ <|
            pvv prog (binOp .lss 3 i_32 (.int .i64 16)) w fun t_34 w =>
            cd t_34 (
              lp (fun σ w again_36 => pop σ fun j_35 σ => fin σ <|
                pvv prog (binOp .lss 3 j_35 (.int .i64 4)) w fun t_37 w =>
                cd t_37 (
                  dr w fun w =>
                  pvv prog (Instr.indexAt 101 t_31 i_32) w fun t_38 w =>
                  pvv prog (binOp .mul 3 (.int .i64 4) i_32) w fun t_39 w =>
                  pvv prog (binOp .add 3 at_27 t_39) w fun t_40 w =>
                  pvv prog (binOp .add 3 t_40 j_35) w fun t_41 w =>
                  pvv prog (Instr.indexAt 74 m_16 t_41) w fun t_42 w =>
                  bindS (vN (Instr.loadAt 100 t_38)) fun m_44 => ldv prog (Instr.loadAt 100 t_38) w fun t_43 w =>
                  pvv prog (binOp .shl 100 t_43 (.int .u64 8)) w fun t_45 w =>
                  bindS (vN (Instr.loadAt 5 t_42)) fun m_47 => ldv prog (Instr.loadAt 5 t_42) w fun t_46 w =>
                  pvv prog (convert 5 100 t_46) w fun t_48 w =>
                  pvv prog (binOp .or 100 t_45 t_48) w fun t_49 w =>
                  pvv prog (Instr.indexAt 101 t_31 i_32) w fun t_50 w =>
                  efu prog (Instr.storeAt 100 t_50 t_49) w fun u_51 w =>
                  pvv prog (binOp .add 3 j_35 (.int .i64 1)) w fun t_52 w =>
                  again_36 [t_52] w) <|
                pvv prog (binOp .add 3 i_32 (.int .i64 1)) w fun t_54 w =>
                again_33 [t_54] w) [(.int .i64 0)] w) <|
            lp (fun σ w again_56 => pop σ fun i_55 σ => fin σ <|
              pvv prog (binOp .lss 3 i_55 (.int .i64 64)) w fun t_57 w =>
              cd t_57 (
                dr w fun w =>
                pvv prog (binOp .sub 3 i_55 (.int .i64 15)) w fun t_58 w =>
                pvv prog (Instr.indexAt 101 t_31 t_58) w fun t_59 w =>
                pvv prog (binOp .sub 3 i_55 (.int .i64 2)) w fun t_60 w =>
                pvv prog (Instr.indexAt 101 t_31 t_60) w fun t_61 w =>
                bindS (vN (Instr.loadAt 100 t_59)) fun m_63 => ldv prog (Instr.loadAt 100 t_59) w fun t_62 w =>
                bindS (vN (Instr.loadAt 100 t_61)) fun m_65 => ldv prog (Instr.loadAt 100 t_61) w fun t_64 w =>
                dr w fun w =>
                pvv prog (binOp .sub 3 i_55 (.int .i64 16)) w fun t_66 w =>
                pvv prog (Instr.indexAt 101 t_31 t_66) w fun t_67 w =>
                pvv prog (binOp .shr 100 t_62 (.int .u64 3)) w fun t_68 w =>
                pvv prog (binOp .sub 3 i_55 (.int .i64 7)) w fun t_69 w =>
                pvv prog (Instr.indexAt 101 t_31 t_69) w fun t_70 w =>
                pvv prog (binOp .shr 100 t_64 (.int .u64 10)) w fun t_71 w =>
                bindS (vN (Instr.loadAt 100 t_67)) fun m_73 => ldv prog (Instr.loadAt 100 t_67) w fun t_72 w =>
                bindS (vN (Instr.loadAt 100 t_70)) fun m_75 => ldv prog (Instr.loadAt 100 t_70) w fun t_74 w =>
                Calls prog 56 #[t_62, (.int .i64 7)] w (Ret fun t_76 w => stay prog none m_75 t_74 w <| stay prog none m_73 t_72 w <| 
                Calls prog 56 #[t_62, (.int .i64 18)] w (Ret fun t_77 w => stay prog none m_75 t_74 w <| stay prog none m_73 t_72 w <| 
                pvv prog (binOp .xor 100 t_76 t_77) w fun t_78 w =>
                pvv prog (binOp .xor 100 t_78 t_68) w fun t_79 w =>
                pvv prog (binOp .add 100 t_72 t_79) w fun t_80 w =>
                pvv prog (binOp .add 100 t_80 t_74) w fun t_81 w =>
                Calls prog 56 #[t_64, (.int .i64 17)] w (Ret fun t_82 w => stay prog none m_75 t_74 w <| stay prog none m_73 t_72 w <| 
                Calls prog 56 #[t_64, (.int .i64 19)] w (Ret fun t_83 w => stay prog none m_75 t_74 w <| stay prog none m_73 t_72 w <| 
                pvv prog (binOp .xor 100 t_82 t_83) w fun t_84 w =>
                pvv prog (binOp .xor 100 t_84 t_71) w fun t_85 w =>
                pvv prog (binOp .add 100 t_81 t_85) w fun t_86 w =>
                pvv prog (Instr.indexAt 101 t_31 i_55) w fun t_87 w =>
                efu prog (Instr.storeAt 100 t_87 t_86) w fun u_88 w =>
                pvv prog (binOp .add 3 i_55 (.int .i64 1)) w fun t_89 w =>
                again_56 [t_89] w))))) <|
              ef prog (oBi .append #[101, 101] 101 #[false, false] #[(.slice none 0 0), (.slice (some ⟨bh, 0, none⟩) 8 8)]) w fun t_95 w =>
              lp (fun σ w again_98 => pop σ fun v_96 σ => pop σ fun i_97 σ => fin σ <|
                pvv prog (binOp .lss 3 i_97 (.int .i64 64)) w fun t_99 w =>
                cd t_99 (
                  dr w fun w =>
                  pvv prog (Instr.indexAt 101 v_96 (.int .i64 4)) w fun t_100 w =>
                  pvv prog (Instr.indexAt 101 v_96 (.int .i64 4)) w fun t_101 w =>
                  pvv prog (Instr.indexAt 101 v_96 (.int .i64 4)) w fun t_102 w =>
                  bindS (vN (Instr.loadAt 100 t_100)) fun m_104 => ldv prog (Instr.loadAt 100 t_100) w fun t_103 w =>
                  bindS (vN (Instr.loadAt 100 t_101)) fun m_106 => ldv prog (Instr.loadAt 100 t_101) w fun t_105 w =>
                  bindS (vN (Instr.loadAt 100 t_102)) fun m_108 => ldv prog (Instr.loadAt 100 t_102) w fun t_107 w =>
                  Calls prog 56 #[t_103, (.int .i64 6)] w (Ret fun t_109 w => stay prog none m_108 t_107 w <| stay prog none m_106 t_105 w <| 
                  Calls prog 56 #[t_105, (.int .i64 11)] w (Ret fun t_110 w => stay prog none m_108 t_107 w <| stay prog none m_104 t_103 w <| 
                  pvv prog (binOp .xor 100 t_109 t_110) w fun t_111 w =>
                  Calls prog 56 #[t_107, (.int .i64 25)] w (Ret fun t_112 w => stay prog none m_106 t_105 w <| stay prog none m_104 t_103 w <| 
                  pvv prog (binOp .xor 100 t_111 t_112) w fun t_113 w =>
                  dr w fun w =>
                  pvv prog (Instr.indexAt 101 v_96 (.int .i64 4)) w fun t_114 w =>
                  pvv prog (Instr.indexAt 101 v_96 (.int .i64 5)) w fun t_115 w =>
                  pvv prog (Instr.indexAt 101 v_96 (.int .i64 4)) w fun t_116 w =>
                  pvv prog (Instr.indexAt 101 v_96 (.int .i64 6)) w fun t_117 w =>
                  bindS (vN (Instr.loadAt 100 t_114)) fun m_119 => ldv prog (Instr.loadAt 100 t_114) w fun t_118 w =>
                  bindS (vN (Instr.loadAt 100 t_115)) fun m_121 => ldv prog (Instr.loadAt 100 t_115) w fun t_120 w =>
                  pvv prog (binOp .and 100 t_118 t_120) w fun t_122 w =>
                  bindS (vN (Instr.loadAt 100 t_116)) fun m_124 => ldv prog (Instr.loadAt 100 t_116) w fun t_123 w =>
                  pvv prog (Op.unary .xor t_123) w fun t_125 w =>
                  bindS (vN (Instr.loadAt 100 t_117)) fun m_127 => ldv prog (Instr.loadAt 100 t_117) w fun t_126 w =>
                  pvv prog (binOp .and 100 t_125 t_126) w fun t_128 w =>
                  pvv prog (binOp .xor 100 t_122 t_128) w fun t_129 w =>
                  dr w fun w =>
                  pvv prog (Instr.indexAt 101 v_96 (.int .i64 7)) w fun t_130 w =>
                  pvv prog (Instr.indexAt 101 (.slice (some ⟨bk, 0, none⟩) 64 64) i_97) w fun t_131 w =>
                  pvv prog (Instr.indexAt 101 t_31 i_97) w fun t_132 w =>
                  bindS (vN (Instr.loadAt 100 t_130)) fun m_134 => ldv prog (Instr.loadAt 100 t_130) w fun t_133 w =>
                  pvv prog (binOp .add 100 t_133 t_113) w fun t_135 w =>
                  pvv prog (binOp .add 100 t_135 t_129) w fun t_136 w =>
                  bindS (vN (Instr.loadAt 100 t_131)) fun m_138 => ldv prog (Instr.loadAt 100 t_131) w fun t_137 w =>
                  pvv prog (binOp .add 100 t_136 t_137) w fun t_139 w =>
                  bindS (vN (Instr.loadAt 100 t_132)) fun m_141 => ldv prog (Instr.loadAt 100 t_132) w fun t_140 w =>
                  pvv prog (binOp .add 100 t_139 t_140) w fun t_142 w =>
                  dr w fun w =>
                  pvv prog (Instr.indexAt 101 v_96 (.int .i64 0)) w fun t_143 w =>
                  pvv prog (Instr.indexAt 101 v_96 (.int .i64 0)) w fun t_144 w =>
                  pvv prog (Instr.indexAt 101 v_96 (.int .i64 0)) w fun t_145 w =>
                  bindS (vN (Instr.loadAt 100 t_143)) fun m_147 => ldv prog (Instr.loadAt 100 t_143) w fun t_146 w =>
                  bindS (vN (Instr.loadAt 100 t_144)) fun m_149 => ldv prog (Instr.loadAt 100 t_144) w fun t_148 w =>
                  bindS (vN (Instr.loadAt 100 t_145)) fun m_151 => ldv prog (Instr.loadAt 100 t_145) w fun t_150 w =>
                  Calls prog 56 #[t_146, (.int .i64 2)] w (Ret fun t_152 w => stay prog none m_151 t_150 w <| stay prog none m_149 t_148 w <| 
                  Calls prog 56 #[t_148, (.int .i64 13)] w (Ret fun t_153 w => stay prog none m_151 t_150 w <| stay prog none m_147 t_146 w <| 
                  pvv prog (binOp .xor 100 t_152 t_153) w fun t_154 w =>
                  Calls prog 56 #[t_150, (.int .i64 22)] w (Ret fun t_155 w => stay prog none m_149 t_148 w <| stay prog none m_147 t_146 w <| 
                  pvv prog (binOp .xor 100 t_154 t_155) w fun t_156 w =>
                  dr w fun w =>
                  pvv prog (Instr.indexAt 101 v_96 (.int .i64 0)) w fun t_157 w =>
                  pvv prog (Instr.indexAt 101 v_96 (.int .i64 1)) w fun t_158 w =>
                  pvv prog (Instr.indexAt 101 v_96 (.int .i64 0)) w fun t_159 w =>
                  pvv prog (Instr.indexAt 101 v_96 (.int .i64 2)) w fun t_160 w =>
                  pvv prog (Instr.indexAt 101 v_96 (.int .i64 1)) w fun t_161 w =>
                  pvv prog (Instr.indexAt 101 v_96 (.int .i64 2)) w fun t_162 w =>
                  bindS (vN (Instr.loadAt 100 t_157)) fun m_164 => ldv prog (Instr.loadAt 100 t_157) w fun t_163 w =>
                  bindS (vN (Instr.loadAt 100 t_158)) fun m_166 => ldv prog (Instr.loadAt 100 t_158) w fun t_165 w =>
                  pvv prog (binOp .and 100 t_163 t_165) w fun t_167 w =>
                  bindS (vN (Instr.loadAt 100 t_159)) fun m_169 => ldv prog (Instr.loadAt 100 t_159) w fun t_168 w =>
                  bindS (vN (Instr.loadAt 100 t_160)) fun m_171 => ldv prog (Instr.loadAt 100 t_160) w fun t_170 w =>
                  pvv prog (binOp .and 100 t_168 t_170) w fun t_172 w =>
                  pvv prog (binOp .xor 100 t_167 t_172) w fun t_173 w =>
                  bindS (vN (Instr.loadAt 100 t_161)) fun m_175 => ldv prog (Instr.loadAt 100 t_161) w fun t_174 w =>
                  bindS (vN (Instr.loadAt 100 t_162)) fun m_177 => ldv prog (Instr.loadAt 100 t_162) w fun t_176 w =>
                  pvv prog (binOp .and 100 t_174 t_176) w fun t_178 w =>
                  pvv prog (binOp .xor 100 t_173 t_178) w fun t_179 w =>
                  dr w fun w =>
                  pvv prog (binOp .add 100 t_142 t_156) w fun t_180 w =>
                  pvv prog (binOp .add 100 t_180 t_179) w fun t_181 w =>
                  pvv prog (Instr.indexAt 101 v_96 (.int .i64 0)) w fun t_182 w =>
                  pvv prog (Instr.indexAt 101 v_96 (.int .i64 1)) w fun t_183 w =>
                  pvv prog (Instr.indexAt 101 v_96 (.int .i64 2)) w fun t_184 w =>
                  pvv prog (Instr.indexAt 101 v_96 (.int .i64 3)) w fun t_185 w =>
                  pvv prog (Instr.indexAt 101 v_96 (.int .i64 4)) w fun t_186 w =>
                  pvv prog (Instr.indexAt 101 v_96 (.int .i64 5)) w fun t_187 w =>
                  pvv prog (Instr.indexAt 101 v_96 (.int .i64 6)) w fun t_188 w =>
                  bindS (vN (Instr.loadAt 100 t_182)) fun m_190 => ldv prog (Instr.loadAt 100 t_182) w fun t_189 w =>
                  bindS (vN (Instr.loadAt 100 t_183)) fun m_192 => ldv prog (Instr.loadAt 100 t_183) w fun t_191 w =>
                  bindS (vN (Instr.loadAt 100 t_184)) fun m_194 => ldv prog (Instr.loadAt 100 t_184) w fun t_193 w =>
                  bindS (vN (Instr.loadAt 100 t_185)) fun m_196 => ldv prog (Instr.loadAt 100 t_185) w fun t_195 w =>
                  pvv prog (binOp .add 100 t_195 t_142) w fun t_197 w =>
                  bindS (vN (Instr.loadAt 100 t_186)) fun m_199 => ldv prog (Instr.loadAt 100 t_186) w fun t_198 w =>
                  bindS (vN (Instr.loadAt 100 t_187)) fun m_201 => ldv prog (Instr.loadAt 100 t_187) w fun t_200 w =>
                  bindS (vN (Instr.loadAt 100 t_188)) fun m_203 => ldv prog (Instr.loadAt 100 t_188) w fun t_202 w =>
                  efv prog (Instr.buildSlice 101 8 #[(0, t_181), (1, t_189), (2, t_191), (3, t_193), (4, t_197), (5, t_198), (6, t_200), (7, t_202)]) w fun t_204 w => stay prog none m_196 t_195 w <| 
                  pvv prog (binOp .add 3 i_97 (.int .i64 1)) w fun t_205 w =>
                  again_98 [t_204, t_205] w))))))) <|
                lp (fun σ w again_214 => pop σ fun i_213 σ => fin σ <|
                  pvv prog (binOp .lss 3 i_213 (.int .i64 8)) w fun t_215 w =>
                  cd t_215 (
                    dr w fun w =>
                    pvv prog (Instr.indexAt 101 (.slice (some ⟨bh, 0, none⟩) 8 8) i_213) w fun t_216 w =>
                    pvv prog (Instr.indexAt 101 v_96 i_213) w fun t_217 w =>
                    bindS (vN (Instr.loadAt 100 t_216)) fun m_219 => ldv prog (Instr.loadAt 100 t_216) w fun t_218 w =>
                    bindS (vN (Instr.loadAt 100 t_217)) fun m_221 => ldv prog (Instr.loadAt 100 t_217) w fun t_220 w =>
                    pvv prog (binOp .add 100 t_218 t_220) w fun t_222 w =>
                    pvv prog (Instr.indexAt 101 (.slice (some ⟨bh, 0, none⟩) 8 8) i_213) w fun t_223 w =>
                    efu prog (Instr.storeAt 100 t_223 t_222) w fun u_224 w =>
                    pvv prog (binOp .add 3 i_213 (.int .i64 1)) w fun t_225 w =>
                    again_214 [t_225] w) <|
                  pvv prog (binOp .add 3 at_27 (.int .i64 64)) w fun t_227 w =>
                  again_28 [t_227] w) [(.int .i64 0)] w) [t_95, (.int .i64 0)] w) [(.int .i64 16)] w) [(.int .i64 0)] w) <|
        efv prog (Instr.alloc 44 true (.tuple #[])) w fun out_228 w =>
        lp (fun σ w again_230 => pop σ fun i_229 σ => fin σ <|
          pvv prog (binOp .lss 3 i_229 (.int .i64 32)) w fun t_231 w =>
          cd t_231 (
            pvv prog (binOp .quo 3 i_229 (.int .i64 4)) w fun t_232 w =>
            pvv prog (Instr.indexAt 101 (.slice (some ⟨bh, 0, none⟩) 8 8) t_232) w fun t_233 w =>
            ldv prog (Instr.loadAt 100 t_233) w fun t_234 w =>
            pvv prog (binOp .rem 3 i_229 (.int .i64 4)) w fun t_235 w =>
            pvv prog (binOp .mul 3 (.int .i64 8) t_235) w fun t_236 w =>
            pvv prog (binOp .sub 3 (.int .i64 24) t_236) w fun t_237 w =>
            pvv prog (binOp .shr 100 t_234 t_237) w fun t_238 w =>
            pvv prog (convert 100 5 t_238) w fun t_239 w =>
            pvv prog (Instr.indexAt 44 out_228 i_229) w fun t_240 w =>
            efu prog (Instr.storeAt 5 t_240 t_239) w fun u_241 w =>
            pvv prog (binOp .add 3 i_229 (.int .i64 1)) w fun t_242 w =>
            again_230 [t_242] w) <|
          ldv prog (Instr.loadAt 44 out_228) w fun t_243 w =>
          efu prog (Instr.storeAt 44 (.pointer (some ⟨bo, 0, none⟩)) t_243) w fun u_244 w =>
          ∃ r_245, (do loadVar 44 (← asAddr (.pointer (some ⟨bo, 0, none⟩)))).run prog w = .ok r_245 w ∧ K r_245 w) [(.int .i64 0)] w) [(.int .i64 0)] w) [ve, (.int .i64 0)] w := by
  refine lp_nat (fun q σ w => ∃ (i : Nat) (ve : Value), σ = [ve, .int .i64 i] ∧ q = 8 - i ∧ i ≤ 8 ∧
    sat E w (osl 5 1 ve (m.length + i) ((m ++ (lenBytes n).take i).map bv) * (pts bh (.cells (st.list.map wv).toArray 100 (0, 0)) * (pts bo (.cells (List.replicate 32 (bv 0)).toArray 44 (0, 0)) * H)))) 8
    ⟨0, ve, rfl, rfl, by omega, by simpa using h⟩ ?_
  clear h
  rintro q σ w again ⟨i, ve, rfl, rfl, hi, h⟩ hag
  rw [pop_cons, pop_cons, fin_nil, o_lss]
  refine cd_dec (fun hlt => ?_) (fun hge => ?_)
  · have hlt : i < 8 := by omega
    have e0 : IntKind.i64.wrap (8 * (i : Int)) = ((8 * i : Nat) : Int) := by rw [i64_of (by omega) (by omega)]; omega
    have e1 : IntKind.i64.wrap (56 - ((8 * i : Nat) : Int)) = ((56 - 8 * i : Nat) : Int) := by rw [i64_of (by omega) (by omega)]; omega
    rw [o_mul, e0, o_sub, e1, o_shr (by simp [IntKind.bits]; omega), o_convInt]
    have e2 : Value.int .u8 (IntKind.u8.wrap ((N / 2 ^ (56 - 8 * i) : Nat) : Int)) = bv (UInt8.ofNat (N / 2 ^ (56 - 8 * i))) := by
      unfold bv; rw [IntKind.wrap_u8]; congr 1
    rw [e2]
    refine push_sl h rfl rfl (by omega) (by omega) fun v2 w h => ?_
    rw [o_add, i64_of (by omega) (by omega)]
    refine hag (8 - (i + 1)) _ _ (by omega) ⟨i + 1, v2, rfl, rfl, by omega, ?_⟩
    rw [lenBytes_get hlt, hN, ← List.append_assoc, List.map_append]
    exact h
  · have hi8 : i = 8 := by omega
    subst hi8
    have e : (lenBytes n).take 8 = lenBytes n := List.take_of_length_le (by rw [lenBytes_length]; omega)
    rw [e] at h
    obtain ⟨a, c, rfl, _, _, ha⟩ := osl_shape h
    obtain ⟨bm, rfl⟩ := ha (by omega)
    have hfr := osl_freeze h
    have hfr : sat E w (pts bh (.cells (st.list.map wv).toArray 100 (0, 0)) * (pts bo (.cells (List.replicate 32 (bv 0)).toArray 44 (0, 0)) * (pers (immS (.slice (some ⟨bm, 0, none⟩) (m.length + 8) c) (m.length + 8) ((m ++ lenBytes n).map bv)) * H))) := hfr.perm (by ac_rfl)
    have el : (m ++ lenBytes n).length = m.length + 8 := by rw [List.length_append, lenBytes_length]
    have := r_blocks (m := m ++ lenBytes n) (bk := bk) (K := K) (by rw [el]; exact hm) (by rw [el]; exact hml) (by rw [el]; omega) hfr (bm := bm) (om := 0) (cm := c) (by rw [el]; exact Rds.pers.left) fun w h => k _ h.drop
    rw [el] at this
    exact this
theorem constants_spec (h : sat E w H) (k : ∀ bk w', sat E w' (pts bk (.cells (K0.map wv).toArray 100 (0, 0)) * H) → K (.slice (some ⟨bk, 0, none⟩) 64 64) w') : Calls prog 55 #[] w (Ret K) := by
  refine c55 ?_
  unfold B55
  exact buildSlice_sl (e := 100) (cs := (K0.map wv).toArray) h (fun w => by kernel_rfl) fun b1 w h => k _ _ h
theorem RSum_spec (h : sat E w H) {v : Value} {b : List UInt8} (hb : Rds H v b.length (b.map bv)) (hl : b.length ≤ 140737488355000)
    (k : ∀ w', sat E w' H → K (.agg ((sha b).map bv).toArray) w') : Calls prog 44 #[v] w (Ret K) := by
  obtain ⟨a, c, rfl, hc, hb, ha⟩ := hb.shape h
  refine c44 ?_
  unfold B44
  refine alloc_sl h fun bo w h => ?_
  refine buildSlice_sl (e := 100) (cs := (st0.list.map wv).toArray) h (fun w => by kernel_rfl) fun bh w h => ?_
  refine constants_spec h fun bk w h => ?_
  have h : sat E w (pts bk (.cells (K0.map wv).toArray 100 (0, 0)) * (pts bh (.cells (st0.list.map wv).toArray 100 (0, 0)) * (pts bo (.cells (List.replicate 32 (bv 0)).toArray 44 (0, 0)) * H))) := h
  refine append_sl (osl_nil h 5 1) (b.map bv) (by simp) (hb.win h.drop.drop.drop) (bv_one b) (by omega) (by omega) fun v1 w h => ?_
  refine push_sl h rfl rfl (by omega) (by omega) fun v2 w h => ?_
  simp only [List.nil_append, Nat.zero_add] at h
  refine lp_nat (fun q σ w => ∃ (z : Nat) (ve : Value), σ = [ve] ∧ q = (119 - b.length % 64) % 64 - z ∧ z ≤ (119 - b.length % 64) % 64 ∧
    sat E w (osl 5 1 ve (b.length + 1 + z) ((b ++ [128] ++ List.replicate z 0).map bv) * (pts bk (.cells (K0.map wv).toArray 100 (0, 0)) * (pts bh (.cells (st0.list.map wv).toArray 100 (0, 0)) * (pts bo (.cells (List.replicate 32 (bv 0)).toArray 44 (0, 0)) * H))))) ((119 - b.length % 64) % 64)
    ⟨0, v2, rfl, rfl, by omega, by simpa [bv] using h⟩ ?_
  clear h
  rintro q σ w again ⟨z, ve, rfl, rfl, hz, h⟩ hag
  obtain ⟨a2, c2, rfl, _, _, _⟩ := osl_shape h
  rw [pop_cons, fin_nil, o_len, o_rem (by decide), o_neInt]
  have et : (((b.length + 1 + z : Nat) : Int)).tmod 64 = (((b.length + 1 + z) % 64 : Nat) : Int) := by
    rw [Int.tmod_eq_emod_of_nonneg (by omega)]; omega
  rw [et]
  refine cd_dec' (fun heq => ?_) (fun hne => ?_)
  · have hz2 : z = (119 - b.length % 64) % 64 := by omega
    subst hz2
    rw [o_len, o_convInt, o_mul]
    have ew : IntKind.u64.wrap (b.length : Int) = (b.length : Int) := by rw [IntKind.wrap_u64]; omega
    have en : IntKind.u64.wrap ((b.length : Int) * 8) = ((b.length * 8 % 18446744073709551616 : Nat) : Int) := by rw [IntKind.wrap_u64]; omega
    rw [ew, en]
    have el : (b ++ [128] ++ List.replicate ((119 - b.length % 64) % 64) 0).length = b.length + 1 + (119 - b.length % 64) % 64 := by simp; omega
    have h2 : sat E w (osl 5 1 (.slice a2 (b.length + 1 + (119 - b.length % 64) % 64) c2) (b ++ [128] ++ List.replicate ((119 - b.length % 64) % 64) 0).length ((b ++ [128] ++ List.replicate ((119 - b.length % 64) % 64) 0).map bv) * (pts bh (.cells (st0.list.map wv).toArray 100 (0, 0)) * (pts bo (.cells (List.replicate 32 (bv 0)).toArray 44 (0, 0)) * (pts bk (.cells (K0.map wv).toArray 100 (0, 0)) * H)))) := by
      rw [el]
      exact h.perm (by ac_rfl)
    exact r_len (bk := bk) (n := b.length) (st := st0) rfl (by rw [el]; omega) (by rw [el]; omega) h2 fun w h => k _ h.drop
  · have hz2 : z < (119 - b.length % 64) % 64 := by omega
    refine push_sl h rfl rfl (by omega) (by omega) fun v3 w h => ?_
    refine hag ((119 - b.length % 64) % 64 - (z + 1)) _ _ (by omega) ⟨z + 1, v3, rfl, rfl, by omega, ?_⟩
    have e : (b ++ [128] ++ List.replicate z 0).map bv ++ [Value.int .u8 0] = (b ++ [128] ++ List.replicate (z + 1) 0).map bv := by
      rw [List.replicate_succ']; simp [bv]
    rw [← e]
    exact h
end Go.Proofs.YtjeiojibnmfibaaGreatDoor

/-
  Tags: keys filled to a block, the code's and the reference's; links of a chain; hashes compared.
-/
set_option linter.all false
set_option maxRecDepth 10000
namespace Go.Proofs.YtjeiojibnmfibaaGreatDoor
open Go Hold
variable {E : World0} {w : World} {H R : HP} {K : Value → World → Prop}
def key0 (key : List UInt8) : List UInt8 := if 64 < key.length then sha key else key
def filled (key : List UInt8) : List UInt8 := key0 key ++ List.replicate (64 - (key0 key).length) 0
def tag (key b : List UInt8) : List UInt8 := sha ((filled key).map (· ^^^ 92) ++ sha ((filled key).map (· ^^^ 54) ++ b))
theorem key0_length (key : List UInt8) : (key0 key).length ≤ 64 := by
  unfold key0; split
  · rw [sha_length]; omega
  · omega
theorem filled_length (key : List UInt8) : (filled key).length = 64 := by
  have := key0_length key
  simp [filled]; omega
theorem tag_length (key b : List UInt8) : (tag key b).length = 32 := sha_length _
/-- A hash in a block of its own. -/
theorem hash_var (h : sat E w H) {l : List UInt8} (hl : l.length = 32) {K : Value → World → Prop}
    (k : ∀ b w', sat E w' (pts b (.cells (l.map bv).toArray 44 (0, 0)) * H) → K (.pointer (some ⟨b, 0, none⟩)) w') :
    efv prog (Instr.alloc 44 true (.tuple #[])) w fun x w => efu prog (Instr.storeAt 44 x (.agg (l.map bv).toArray)) w fun _ w => K x w := by
  refine alloc_sl h fun b w h => ?_
  have h : sat E w (pts b (.cells (List.replicate 32 (bv 0)).toArray 44 (0, 0)) * H) := h
  refine storeN_sl (b := b) h (aggC_44).size (vs := l.map bv) (by simp [Value.cells]) (by simpa using hl) (bv_one _) (by simp) fun w h => ?_
  have e : (List.replicate 32 (bv 0)).take 0 ++ l.map bv ++ (List.replicate 32 (bv 0)).drop (0 + 32) = l.map bv := by simp
  rw [e] at h
  exact k b w h
/-- A hash is stored into its result, and handed back. -/
theorem hash_ret (h : sat E w H) {b : Nat} {l ol : List UInt8} (hl : l.length = 32) (hol : ol.length = 32) [Own H b (.cells (ol.map bv).toArray 44 (0, 0)) R] {K : Value → World → Prop}
    (k : ∀ w', sat E w' (pts b (.cells (l.map bv).toArray 44 (0, 0)) * R) → K (.agg (l.map bv).toArray) w') :
    efu prog (Instr.storeAt 44 (.pointer (some ⟨b, 0, none⟩)) (.agg (l.map bv).toArray)) w fun _ w =>
      ∃ r, (do loadVar 44 (← asAddr (.pointer (some ⟨b, 0, none⟩)))).run prog w = .ok r w ∧ K r w := by
  refine storeN_sl (b := b) h (aggC_44).size (vs := l.map bv) (by simp [Value.cells]) (by simpa using hl) (bv_one _) (by simp [hol]) fun w h => ?_
  have e : (ol.map bv).take 0 ++ l.map bv ++ (ol.map bv).drop (0 + 32) = l.map bv := by
    rw [List.drop_eq_nil_of_le (by simp [hol])]; simp
  rw [e] at h
  exact res_agg (b := b) h (by simpa using hl) (k _ h)
theorem rds_block {b e : Nat} {n c : Nat} {xs : List Value} {fr : Nat × Nat} [hb : Has H b (.cells xs.toArray e fr)] (hc : n ≤ c) : Rds H (.slice (some ⟨b, 0, none⟩) n c) n xs := fun E w hs =>
  ⟨_, c, rfl, hc, .inr ⟨b, 0, _, _, _, rfl, hb.get hs, fun j v hj => by simpa using hj⟩⟩
theorem take_get {l : List UInt8} {i : Nat} (h : i < l.length) : l.take (i + 1) = l.take i ++ [l.getD i 0] := by
  rw [List.take_succ_eq_append_getElem h]
  simp [List.getD_eq_getElem?_getD, h]
theorem take_bv {l : List UInt8} {i : Nat} (h : i < l.length) : (l.take i).map bv ++ [bv (l.getD i 0)] = (l.take (i + 1)).map bv := by
  rw [take_get h, List.map_append]; rfl
theorem bytesOf_spec (h : sat E w H) {l : List UInt8} (hl : l.length = 32) (k : ∀ v w', sat E w' (osl 5 1 v 32 (l.map bv) * H) → K v w') : Calls prog 43 #[.agg (l.map bv).toArray] w (Ret K) := by
  refine c43 ?_
  unfold B43
  refine box_sl h fun b1 w h => ?_
  have h : sat E w (pts b1 (.cells (l.map bv).toArray 44 (0, 0)) * H) := h
  refine lp_nat (fun q σ w => ∃ (i : Nat) (v : Value), σ = [v, .int .i64 i] ∧ q = 32 - i ∧ i ≤ 32 ∧ sat E w (osl 5 1 v i ((l.take i).map bv) * (pts b1 (.cells (l.map bv).toArray 44 (0, 0)) * H))) 32
    ⟨0, _, rfl, rfl, by omega, osl_nil h 5 1⟩ ?_
  rintro q σ w again ⟨i, v, rfl, rfl, hi, h⟩ hag
  rw [pop_cons, pop_cons, fin_nil, o_lss]
  refine cd_dec (fun hlt => ?_) (fun hge => ?_)
  · rw [o_indexA (by omega) (by omega)]
    refine ld_in (b := b1) (o := 0 + (i : Int).toNat) (v := bv (l.getD i 0)) h (by rw [Nat.zero_add]; exact getbv (by rw [Int.toNat_natCast]; omega)) ?_
    refine push_sl h rfl rfl (by omega) (by omega) fun v2 w h => ?_
    rw [o_add, i64_of (by omega) (by omega)]
    refine hag (32 - (i + 1)) _ _ (by omega) ⟨i + 1, v2, rfl, rfl, by omega, ?_⟩
    rw [← take_bv (show i < l.length by omega)]; exact h
  · have hi2 : i = 32 := by omega
    subst hi2
    rw [List.take_of_length_le (by omega)] at h
    exact k _ _ (h.lose b1)
theorem Chain_spec (h : sat E w H) {l b : List UInt8} (hl : l.length = 32) {v : Value} (hb : Rds H v b.length (b.map bv)) (hbl : b.length + 32 ≤ 140737488355000) (k : ∀ w', sat E w' H → K (.agg ((sha (l ++ b)).map bv).toArray) w') : Calls prog 48 #[.agg (l.map bv).toArray, v] w (Ret K) := by
  obtain ⟨a, c, rfl, hc, hb, ha⟩ := hb.shape h
  refine c48 ?_
  unfold B48
  refine box_sl h fun b1 w h => ?_
  have h : sat E w (pts b1 (.cells (l.map bv).toArray 44 (0, 0)) * H) := h
  refine alloc_sl h fun b2 w h => ?_
  have h : sat E w (pts b2 (.cells ((List.replicate 32 (0 : UInt8)).map bv).toArray 44 (0, 0)) * (pts b1 (.cells (l.map bv).toArray 44 (0, 0)) * H)) := h
  rw [o_sliceA]
  refine append_full h (xs := l.map bv) (by simpa using hl) (rds_block (b := b1) (Nat.le_refl _)) (b.map bv) (by simp) (hb.win h.drop.drop) (bv_one b) (by omega) (by omega) fun v3 w X h hv3 => ?_
  refine Sum_spec (b := l ++ b) h (by rw [List.length_append, hl, List.map_append]; exact hv3) (by simp; omega) fun w h => ?_
  exact hash_ret (b := b2) h (sha_length _) (by simp) fun w h => k _ h.drop.drop.drop
end Go.Proofs.YtjeiojibnmfibaaGreatDoor

/-
  Links of a chain, the reference's.
-/
set_option linter.all false
set_option maxRecDepth 10000
namespace Go.Proofs.YtjeiojibnmfibaaGreatDoor
open Go Hold
variable {E : World0} {w : World} {H R : HP} {K : Value → World → Prop}
theorem RChain_spec (h : sat E w H) {l b : List UInt8} (hl : l.length = 32) {v : Value} (hb : Rds H v b.length (b.map bv)) (hbl : b.length + 32 ≤ 140737488355000) (k : ∀ w', sat E w' H → K (.agg ((sha (l ++ b)).map bv).toArray) w') : Calls prog 31 #[.agg (l.map bv).toArray, v] w (Ret K) := by
  obtain ⟨a, c, rfl, hc, hb, ha⟩ := hb.shape h
  refine c31 ?_
  unfold B31
  refine box_sl h fun b1 w h => ?_
  have h : sat E w (pts b1 (.cells (l.map bv).toArray 44 (0, 0)) * H) := h
  refine alloc_sl h fun b2 w h => ?_
  have h : sat E w (pts b2 (.cells ((List.replicate 32 (0 : UInt8)).map bv).toArray 44 (0, 0)) * (pts b1 (.cells (l.map bv).toArray 44 (0, 0)) * H)) := h
  refine ld_agg (b := b1) h (by simpa using hl) ?_
  refine bytesOf_spec h hl fun v3 w h => ?_
  refine append_sl (v := v3) h (b.map bv) (by simp) (hb.win h.drop.drop.drop) (bv_one b) (by omega) (by omega) fun v4 w h => ?_
  have hr : Rds (osl 5 1 v4 (32 + b.length) (l.map bv ++ b.map bv) * (pts b2 (.cells ((List.replicate 32 (0 : UInt8)).map bv).toArray 44 (0, 0)) * (pts b1 (.cells (l.map bv).toArray 44 (0, 0)) * H))) v4 (l ++ b).length ((l ++ b).map bv) := by
    rw [List.length_append, hl, List.map_append]; exact Rds.osl.left
  refine RSum_spec (b := l ++ b) h hr (by simp; omega) fun w h => ?_
  exact hash_ret (b := b2) h (sha_length _) (by simp) fun w h => k _ h.drop.drop.drop
end Go.Proofs.YtjeiojibnmfibaaGreatDoor

/-
  Rows of columns: the code's and the reference's; columns of rows; what they say of each other.
-/
set_option linter.all false
set_option maxRecDepth 10000
namespace Go.Proofs.YtjeiojibnmfibaaGreatDoor
open Go Hold
variable {E : World0} {w : World} {H R : HP} {K : Value → World → Prop}
def col (c : List UInt8) : List UInt8 := UInt8.ofNat c.length :: c
def body (cs : List (List UInt8)) : List UInt8 := cs.flatMap col
def rowOut (cs : List (List UInt8)) : List UInt8 := UInt8.ofNat cs.length :: body cs
def row (cs : List (List UInt8)) : List UInt8 × Int :=
  if 8 < cs.length then ([], 2) else if cs.all (fun p => decide (p.length ≤ 70)) = true then (if 72 < (rowOut cs).length then ([], 6) else (rowOut cs, 0)) else ([], 6)
theorem body_append (a b : List (List UInt8)) : body (a ++ b) = body a ++ body b := by simp [body]
theorem body_take {ps : List (List UInt8)} {i : Nat} (h : i < ps.length) : body (ps.take (i + 1)) = body (ps.take i) ++ col (ps.getD i []) := by
  rw [List.take_succ_eq_append_getElem h, body_append]
  simp [body, List.getD_eq_getElem?_getD, h]
theorem body_short {ps : List (List UInt8)} : ∀ i, i ≤ ps.length → (∀ j, j < i → (ps.getD j []).length ≤ 70) → (body (ps.take i)).length ≤ 71 * i
  | 0, _, _ => by simp [body]
  | i + 1, h, hs => by
    have ih := body_short i (by omega) fun j hj => hs j (by omega)
    rw [body_take (by omega)]
    have h2 := hs i (by omega)
    simp only [List.length_append, col, List.length_cons]
    omega
theorem row_long {ps : List (List UInt8)} (h : ¬ 8 < ps.length) {i : Nat} (hi : i < ps.length) (hl : 70 < (ps.getD i []).length) : row ps = ([], 6) := by
  unfold row
  rw [if_neg h, if_neg]
  intro ha
  have := List.all_eq_true.1 ha (ps.getD i []) (by rw [List.getD_eq_getElem?_getD, List.getElem?_eq_getElem hi]; exact List.getElem_mem hi)
  have := of_decide_eq_true this
  omega
theorem all_short70 {ps : List (List UInt8)} (h : ∀ j, j < ps.length → (ps.getD j []).length ≤ 70) : ps.all (fun p => decide (p.length ≤ 70)) = true := by
  refine List.all_eq_true.2 fun p hp => ?_
  obtain ⟨i, hi, rfl⟩ := List.getElem_of_mem hp
  have := h i hi
  rw [List.getD_eq_getElem?_getD, List.getElem?_eq_getElem hi] at this
  simpa using this
theorem row_done {ps : List (List UInt8)} (h : ¬ 8 < ps.length) (hs : ∀ j, j < ps.length → (ps.getD j []).length ≤ 70) : row ps = if 72 < (rowOut ps).length then ([], 6) else (rowOut ps, 0) := by
  unfold row
  rw [if_neg h, if_pos (all_short70 hs)]
theorem bv_len {n : Nat} (h : n < 256) : Value.int .u8 (IntKind.u8.wrap (n : Int)) = bv (UInt8.ofNat n) := by
  unfold bv; rw [IntKind.wrap_u8]; congr 1
theorem Row_spec (h : sat E w H) {v : Value} {ps : List (List UInt8)} (hp : Rds H v ps.length (ps.map tv)) (hpl : ps.length ≤ 9223372036854775000) (k : back K E H (row ps)) : Calls prog 47 #[v] w (Ret K) := by
  obtain ⟨a, c, rfl, hc, hp, hpn⟩ := hp.shape h
  refine c47 ?_
  unfold B47
  rw [o_len, o_gtr]
  by_cases h2 : 8 < ps.length
  · have f2 : (8 : Int) < ps.length := by omega
    simp only [f2, ↓o_nil, ↓o_field, ↓o_add, ↓o_sub, ↓o_mul, ↓o_lss, ↓o_leq, ↓o_gtr, ↓o_geq, ↓o_not, ↓o_pick, ↓o_eqInt, ↓o_neInt, ↓o_eqBool, ↓o_neBool, ↓o_eqPtr, ↓o_nePtr, ↓o_eqPtr', ↓o_eqSl, ↓o_neSl, ↓o_eqStr, ↓o_neStr, ↓o_len, ↓o_lenS, ↓o_min, ↓o_max, ↓o_extract, ↓o_convInt, ↓cd_true, ↓cd_false, ↓gate_tt, ↓gate_ff, ↓gate_tf, ↓gate_ft, ↓gate_undef, ↓o_bind, ↓stay_v, ↓pop_cons, ↓fin_nil, Option.isNone_none, Option.isNone_some, Bool.not_true, Bool.not_false, Nat.zero_add, decide_true, decide_false, if_true, if_false, Bool.false_eq_true, ↓reduceIte]
    have e : row ps = ([], 2) := by unfold row; rw [if_pos h2]
    rw [e] at k
    exact back_nil h k
  have f2 : ¬ (8 : Int) < ps.length := by omega
  simp only [f2, ↓o_nil, ↓o_field, ↓o_add, ↓o_sub, ↓o_mul, ↓o_lss, ↓o_leq, ↓o_gtr, ↓o_geq, ↓o_not, ↓o_pick, ↓o_eqInt, ↓o_neInt, ↓o_eqBool, ↓o_neBool, ↓o_eqPtr, ↓o_nePtr, ↓o_eqPtr', ↓o_eqSl, ↓o_neSl, ↓o_eqStr, ↓o_neStr, ↓o_len, ↓o_lenS, ↓o_min, ↓o_max, ↓o_extract, ↓o_convInt, ↓cd_true, ↓cd_false, ↓gate_tt, ↓gate_ff, ↓gate_tf, ↓gate_ft, ↓gate_undef, ↓o_bind, ↓stay_v, ↓pop_cons, ↓fin_nil, Option.isNone_none, Option.isNone_some, Bool.not_true, Bool.not_false, Nat.zero_add, decide_true, decide_false, if_true, if_false, Bool.false_eq_true, ↓reduceIte, bv_len (show ps.length < 256 by omega)]
  refine buildSlice_sl (e := 5) (cs := #[bv (UInt8.ofNat ps.length)]) h (fun w => by kernel_rfl) fun b0 w h => ?_
  refine lp_nat (fun q σ w => ∃ (i : Nat) (v : Value), σ = [v, .int .i64 (i : Int)] ∧ q = ps.length - i ∧ i ≤ ps.length ∧ (∀ j, j < i → (ps.getD j []).length ≤ 70) ∧ sat E w (osl 5 1 v (1 + (body (ps.take i)).length) ((UInt8.ofNat ps.length :: body (ps.take i)).map bv) * H)) ps.length
    ⟨0, _, rfl, rfl, by omega, fun j hj => by omega, by
      have := osl_of (n := 1) (sz := 1) (xs := [bv (UInt8.ofNat ps.length)]) h rfl (by omega)
      simpa [body] using this⟩ ?_
  clear h
  rintro q σ w again ⟨i, v, rfl, rfl, hi, hs, h⟩ hag
  have hes := body_short i hi hs
  rw [pop_cons, pop_cons, fin_nil, o_lss]
  refine cd_dec (fun hlt => ?_) (fun hge => ?_)
  · have hlt : i < ps.length := by omega
    obtain ⟨bb, o, c', hv, _, hp⟩ := hp.opened h.drop (by simp; omega)
    cases hv
    rw [o_index (by omega) (by omega)]
    refine ld_rd h hp.right i (by rw [Int.toNat_natCast]; omega) (gettv hlt) ?_
    rw [o_lenT, o_gtr]
    by_cases h3 : 70 < (ps.getD i []).length
    · have f3 : (70 : Int) < (ps.getD i []).length := by omega
      simp only [f3, ↓o_nil, ↓o_field, ↓o_add, ↓o_sub, ↓o_mul, ↓o_lss, ↓o_leq, ↓o_gtr, ↓o_geq, ↓o_not, ↓o_pick, ↓o_eqInt, ↓o_neInt, ↓o_eqBool, ↓o_neBool, ↓o_eqPtr, ↓o_nePtr, ↓o_eqPtr', ↓o_eqSl, ↓o_neSl, ↓o_eqStr, ↓o_neStr, ↓o_len, ↓o_lenS, ↓o_min, ↓o_max, ↓o_extract, ↓o_convInt, ↓cd_true, ↓cd_false, ↓gate_tt, ↓gate_ff, ↓gate_tf, ↓gate_ft, ↓gate_undef, ↓o_bind, ↓stay_v, ↓pop_cons, ↓fin_nil, Option.isNone_none, Option.isNone_some, Bool.not_true, Bool.not_false, Nat.zero_add, decide_true, decide_false, if_true, if_false, Bool.false_eq_true, ↓reduceIte]
      rw [row_long h2 hlt h3] at k
      exact back_nil h.drop k
    · have f3 : ¬ (70 : Int) < (ps.getD i []).length := by omega
      simp only [f3, ↓o_lenT, ↓o_nil, ↓o_field, ↓o_add, ↓o_sub, ↓o_mul, ↓o_lss, ↓o_leq, ↓o_gtr, ↓o_geq, ↓o_not, ↓o_pick, ↓o_eqInt, ↓o_neInt, ↓o_eqBool, ↓o_neBool, ↓o_eqPtr, ↓o_nePtr, ↓o_eqPtr', ↓o_eqSl, ↓o_neSl, ↓o_eqStr, ↓o_neStr, ↓o_len, ↓o_lenS, ↓o_min, ↓o_max, ↓o_extract, ↓o_convInt, ↓cd_true, ↓cd_false, ↓gate_tt, ↓gate_ff, ↓gate_tf, ↓gate_ft, ↓gate_undef, ↓o_bind, ↓stay_v, ↓pop_cons, ↓fin_nil, Option.isNone_none, Option.isNone_some, Bool.not_true, Bool.not_false, Nat.zero_add, decide_true, decide_false, if_true, if_false, Bool.false_eq_true, ↓reduceIte, bv_len (show (ps.getD i []).length < 256 by omega)]
      refine push_sl (v := v) h rfl rfl (by omega) (by omega) fun v2 w h => ?_
      refine append_str (v := v2) h (by omega) fun v3 w h => ?_
      (try rw [o_add]); rw [i64_of (by omega) (by omega)]
      refine hag (ps.length - (i + 1)) _ _ (by omega) ⟨i + 1, v3, rfl, rfl, by omega, fun j hj => ?_, ?_⟩
      · by_cases c1 : j < i
        · exact hs j c1
        · rw [show j = i by omega]; omega
      · rw [body_take hlt]
        have e : (UInt8.ofNat ps.length :: body (ps.take i)).map bv ++ [bv (UInt8.ofNat (ps.getD i []).length)] ++ (ps.getD i []).map bv = (UInt8.ofNat ps.length :: (body (ps.take i) ++ col (ps.getD i []))).map bv := by simp [col]
        have e2 : 1 + (body (ps.take i)).length + 1 + (ps.getD i []).length = 1 + (body (ps.take i) ++ col (ps.getD i [])).length := by simp [col]; omega
        rw [e, e2] at h
        exact h
  · have hi2 : i = ps.length := by omega
    subst hi2
    rw [List.take_length] at h hes
    obtain ⟨a2, c2, rfl, _, _, _⟩ := osl_shape h
    (try rw [o_len]); (try rw [o_gtr])
    rw [row_done h2 hs] at k
    have hrl : (rowOut ps).length = 1 + (body ps).length := by simp [rowOut]; omega
    by_cases h4 : 72 < (rowOut ps).length
    · have f4 : (72 : Int) < ((1 + (body ps).length : Nat) : Int) := by omega
      simp only [f4, ↓o_nil, ↓o_field, ↓o_add, ↓o_sub, ↓o_mul, ↓o_lss, ↓o_leq, ↓o_gtr, ↓o_geq, ↓o_not, ↓o_pick, ↓o_eqInt, ↓o_neInt, ↓o_eqBool, ↓o_neBool, ↓o_eqPtr, ↓o_nePtr, ↓o_eqPtr', ↓o_eqSl, ↓o_neSl, ↓o_eqStr, ↓o_neStr, ↓o_len, ↓o_lenS, ↓o_min, ↓o_max, ↓o_extract, ↓o_convInt, ↓cd_true, ↓cd_false, ↓gate_tt, ↓gate_ff, ↓gate_tf, ↓gate_ft, ↓gate_undef, ↓o_bind, ↓stay_v, ↓pop_cons, ↓fin_nil, Option.isNone_none, Option.isNone_some, Bool.not_true, Bool.not_false, Nat.zero_add, decide_true, decide_false, if_true, if_false, Bool.false_eq_true, ↓reduceIte]
      rw [if_pos h4] at k
      exact back_nil h.drop k
    · have f4 : ¬ (72 : Int) < ((1 + (body ps).length : Nat) : Int) := by omega
      simp only [f4, ↓o_nil, ↓o_field, ↓o_add, ↓o_sub, ↓o_mul, ↓o_lss, ↓o_leq, ↓o_gtr, ↓o_geq, ↓o_not, ↓o_pick, ↓o_eqInt, ↓o_neInt, ↓o_eqBool, ↓o_neBool, ↓o_eqPtr, ↓o_nePtr, ↓o_eqPtr', ↓o_eqSl, ↓o_neSl, ↓o_eqStr, ↓o_neStr, ↓o_len, ↓o_lenS, ↓o_min, ↓o_max, ↓o_extract, ↓o_convInt, ↓cd_true, ↓cd_false, ↓gate_tt, ↓gate_ff, ↓gate_tf, ↓gate_ft, ↓gate_undef, ↓o_bind, ↓stay_v, ↓pop_cons, ↓fin_nil, Option.isNone_none, Option.isNone_some, Bool.not_true, Bool.not_false, Nat.zero_add, decide_true, decide_false, if_true, if_false, Bool.false_eq_true, ↓reduceIte]
      rw [if_neg h4] at k
      refine k _ _ ?_
      rw [hrl]
      exact h
theorem RRow_spec (h : sat E w H) {v : Value} {ps : List (List UInt8)} (hp : Rds H v ps.length (ps.map tv)) (hpl : ps.length ≤ 9223372036854775000) (k : back K E H (row ps)) : Calls prog 45 #[v] w (Ret K) := by
  obtain ⟨a, c, rfl, hc, hp, hpn⟩ := hp.shape h
  refine c45 ?_
  unfold B45
  rw [o_len, o_gtr]
  by_cases h2 : 8 < ps.length
  · have f2 : (8 : Int) < ps.length := by omega
    simp only [f2, ↓o_nil, ↓o_field, ↓o_add, ↓o_sub, ↓o_mul, ↓o_lss, ↓o_leq, ↓o_gtr, ↓o_geq, ↓o_not, ↓o_pick, ↓o_eqInt, ↓o_neInt, ↓o_eqBool, ↓o_neBool, ↓o_eqPtr, ↓o_nePtr, ↓o_eqPtr', ↓o_eqSl, ↓o_neSl, ↓o_eqStr, ↓o_neStr, ↓o_len, ↓o_lenS, ↓o_min, ↓o_max, ↓o_extract, ↓o_convInt, ↓cd_true, ↓cd_false, ↓gate_tt, ↓gate_ff, ↓gate_tf, ↓gate_ft, ↓gate_undef, ↓o_bind, ↓stay_v, ↓pop_cons, ↓fin_nil, Option.isNone_none, Option.isNone_some, Bool.not_true, Bool.not_false, Nat.zero_add, decide_true, decide_false, if_true, if_false, Bool.false_eq_true, ↓reduceIte]
    have e : row ps = ([], 2) := by unfold row; rw [if_pos h2]
    rw [e] at k
    exact back_nil h k
  have f2 : ¬ (8 : Int) < ps.length := by omega
  simp only [f2, ↓o_nil, ↓o_field, ↓o_add, ↓o_sub, ↓o_mul, ↓o_lss, ↓o_leq, ↓o_gtr, ↓o_geq, ↓o_not, ↓o_pick, ↓o_eqInt, ↓o_neInt, ↓o_eqBool, ↓o_neBool, ↓o_eqPtr, ↓o_nePtr, ↓o_eqPtr', ↓o_eqSl, ↓o_neSl, ↓o_eqStr, ↓o_neStr, ↓o_len, ↓o_lenS, ↓o_min, ↓o_max, ↓o_extract, ↓o_convInt, ↓cd_true, ↓cd_false, ↓gate_tt, ↓gate_ff, ↓gate_tf, ↓gate_ft, ↓gate_undef, ↓o_bind, ↓stay_v, ↓pop_cons, ↓fin_nil, Option.isNone_none, Option.isNone_some, Bool.not_true, Bool.not_false, Nat.zero_add, decide_true, decide_false, if_true, if_false, Bool.false_eq_true, ↓reduceIte, bv_len (show ps.length < 256 by omega)]
  refine buildSlice_sl (e := 5) (cs := #[bv (UInt8.ofNat ps.length)]) h (fun w => by kernel_rfl) fun b0 w h => ?_
  refine lp_nat (fun q σ w => ∃ (i : Nat) (v : Value), σ = [v, .int .i64 (i : Int)] ∧ q = ps.length - i ∧ i ≤ ps.length ∧ (∀ j, j < i → (ps.getD j []).length ≤ 70) ∧ sat E w (osl 5 1 v (1 + (body (ps.take i)).length) ((UInt8.ofNat ps.length :: body (ps.take i)).map bv) * H)) ps.length
    ⟨0, _, rfl, rfl, by omega, fun j hj => by omega, by
      have := osl_of (n := 1) (sz := 1) (xs := [bv (UInt8.ofNat ps.length)]) h rfl (by omega)
      simpa [body] using this⟩ ?_
  clear h
  rintro q σ w again ⟨i, v, rfl, rfl, hi, hs, h⟩ hag
  have hes := body_short i hi hs
  rw [pop_cons, pop_cons, fin_nil]
  (try rw [o_len]); rw [o_lss]
  refine cd_dec (fun hlt => ?_) (fun hge => ?_)
  · have hlt : i < ps.length := by omega
    obtain ⟨bb, o, c', hv, _, hp⟩ := hp.opened h.drop (by simp; omega)
    cases hv
    have ix : ∀ {w : World} {K : Value → World → Prop}, pvv prog (Instr.indexAt 33 (.slice (some ⟨bb, o, none⟩) ps.length c) (.int .i64 (i : Int))) w K = K (.pointer (some ⟨bb, o + i, none⟩)) w := fun {w K} => by
      rw [o_index (by omega) (by omega), Int.toNat_natCast, Nat.mul_one]
    rw [ix]
    refine ld_rd h hp.right i rfl (gettv hlt) ?_
    rw [o_lenT, o_gtr]
    by_cases h3 : 70 < (ps.getD i []).length
    · have f3 : (70 : Int) < (ps.getD i []).length := by omega
      simp only [f3, ↓o_nil, ↓o_field, ↓o_add, ↓o_sub, ↓o_mul, ↓o_lss, ↓o_leq, ↓o_gtr, ↓o_geq, ↓o_not, ↓o_pick, ↓o_eqInt, ↓o_neInt, ↓o_eqBool, ↓o_neBool, ↓o_eqPtr, ↓o_nePtr, ↓o_eqPtr', ↓o_eqSl, ↓o_neSl, ↓o_eqStr, ↓o_neStr, ↓o_len, ↓o_lenS, ↓o_min, ↓o_max, ↓o_extract, ↓o_convInt, ↓cd_true, ↓cd_false, ↓gate_tt, ↓gate_ff, ↓gate_tf, ↓gate_ft, ↓gate_undef, ↓o_bind, ↓stay_v, ↓pop_cons, ↓fin_nil, Option.isNone_none, Option.isNone_some, Bool.not_true, Bool.not_false, Nat.zero_add, decide_true, decide_false, if_true, if_false, Bool.false_eq_true, ↓reduceIte]
      rw [row_long h2 hlt h3] at k
      exact back_nil h.drop k
    · have f3 : ¬ (70 : Int) < (ps.getD i []).length := by omega
      simp only [f3, ix, ↓o_nil, ↓o_field, ↓o_add, ↓o_sub, ↓o_mul, ↓o_lss, ↓o_leq, ↓o_gtr, ↓o_geq, ↓o_not, ↓o_pick, ↓o_eqInt, ↓o_neInt, ↓o_eqBool, ↓o_neBool, ↓o_eqPtr, ↓o_nePtr, ↓o_eqPtr', ↓o_eqSl, ↓o_neSl, ↓o_eqStr, ↓o_neStr, ↓o_len, ↓o_lenS, ↓o_min, ↓o_max, ↓o_extract, ↓o_convInt, ↓cd_true, ↓cd_false, ↓gate_tt, ↓gate_ff, ↓gate_tf, ↓gate_ft, ↓gate_undef, ↓o_bind, ↓stay_v, ↓pop_cons, ↓fin_nil, Option.isNone_none, Option.isNone_some, Bool.not_true, Bool.not_false, Nat.zero_add, decide_true, decide_false, if_true, if_false, Bool.false_eq_true, ↓reduceIte]
      refine ld_rd h hp.right i rfl (gettv hlt) ?_
      rw [o_lenT, o_convInt, bv_len (show (ps.getD i []).length < 256 by omega)]
      refine push_sl (v := v) h rfl rfl (by omega) (by omega) fun v2 w h => ?_
      try rw [ix]
      refine ld_rd h hp.right i rfl (gettv hlt) ?_
      refine append_str (v := v2) h (by omega) fun v3 w h => ?_
      (try rw [o_add]); rw [i64_of (by omega) (by omega)]
      refine hag (ps.length - (i + 1)) _ _ (by omega) ⟨i + 1, v3, rfl, rfl, by omega, fun j hj => ?_, ?_⟩
      · by_cases c1 : j < i
        · exact hs j c1
        · rw [show j = i by omega]; omega
      · rw [body_take hlt]
        have e : (UInt8.ofNat ps.length :: body (ps.take i)).map bv ++ [bv (UInt8.ofNat (ps.getD i []).length)] ++ (ps.getD i []).map bv = (UInt8.ofNat ps.length :: (body (ps.take i) ++ col (ps.getD i []))).map bv := by simp [col]
        have e2 : 1 + (body (ps.take i)).length + 1 + (ps.getD i []).length = 1 + (body (ps.take i) ++ col (ps.getD i [])).length := by simp [col]; omega
        rw [e, e2] at h
        exact h
  · have hi2 : i = ps.length := by omega
    subst hi2
    rw [List.take_length] at h hes
    obtain ⟨a2, c2, rfl, _, _, _⟩ := osl_shape h
    (try rw [o_len]); (try rw [o_gtr])
    rw [row_done h2 hs] at k
    have hrl : (rowOut ps).length = 1 + (body ps).length := by simp [rowOut]; omega
    by_cases h4 : 72 < (rowOut ps).length
    · have f4 : (72 : Int) < ((1 + (body ps).length : Nat) : Int) := by omega
      simp only [f4, ↓o_nil, ↓o_field, ↓o_add, ↓o_sub, ↓o_mul, ↓o_lss, ↓o_leq, ↓o_gtr, ↓o_geq, ↓o_not, ↓o_pick, ↓o_eqInt, ↓o_neInt, ↓o_eqBool, ↓o_neBool, ↓o_eqPtr, ↓o_nePtr, ↓o_eqPtr', ↓o_eqSl, ↓o_neSl, ↓o_eqStr, ↓o_neStr, ↓o_len, ↓o_lenS, ↓o_min, ↓o_max, ↓o_extract, ↓o_convInt, ↓cd_true, ↓cd_false, ↓gate_tt, ↓gate_ff, ↓gate_tf, ↓gate_ft, ↓gate_undef, ↓o_bind, ↓stay_v, ↓pop_cons, ↓fin_nil, Option.isNone_none, Option.isNone_some, Bool.not_true, Bool.not_false, Nat.zero_add, decide_true, decide_false, if_true, if_false, Bool.false_eq_true, ↓reduceIte]
      rw [if_pos h4] at k
      exact back_nil h.drop k
    · have f4 : ¬ (72 : Int) < ((1 + (body ps).length : Nat) : Int) := by omega
      simp only [f4, ↓o_nil, ↓o_field, ↓o_add, ↓o_sub, ↓o_mul, ↓o_lss, ↓o_leq, ↓o_gtr, ↓o_geq, ↓o_not, ↓o_pick, ↓o_eqInt, ↓o_neInt, ↓o_eqBool, ↓o_neBool, ↓o_eqPtr, ↓o_nePtr, ↓o_eqPtr', ↓o_eqSl, ↓o_neSl, ↓o_eqStr, ↓o_neStr, ↓o_len, ↓o_lenS, ↓o_min, ↓o_max, ↓o_extract, ↓o_convInt, ↓cd_true, ↓cd_false, ↓gate_tt, ↓gate_ff, ↓gate_tf, ↓gate_ft, ↓gate_undef, ↓o_bind, ↓stay_v, ↓pop_cons, ↓fin_nil, Option.isNone_none, Option.isNone_some, Bool.not_true, Bool.not_false, Nat.zero_add, decide_true, decide_false, if_true, if_false, Bool.false_eq_true, ↓reduceIte]
      rw [if_neg h4] at k
      refine k _ _ ?_
      rw [hrl]
      exact h
/-! Columns. -/
def colsGo : Nat → List UInt8 → Option (List (List UInt8))
  | 0, [] => some []
  | 0, _ :: _ => none
  | _ + 1, [] => none
  | n + 1, k :: b => if 70 < k.toNat ∨ b.length < k.toNat then none else (colsGo n (b.drop k.toNat)).map (b.take k.toNat :: ·)
def columns (b : List UInt8) : List (List UInt8) × Int :=
  if 72 < b.length then ([], 6) else match b with
    | [] => ([], 3)
    | n :: r => if 8 < n.toNat then ([], 3) else match colsGo n.toNat r with | some cs => (cs, 0) | none => ([], 3)
theorem colsGo_body : ∀ {cs : List (List UInt8)}, (∀ c ∈ cs, c.length ≤ 70) → colsGo cs.length (body cs) = some cs
  | [], _ => rfl
  | c :: cs, h => by
    have hc := h c (by simp)
    have ih := colsGo_body (cs := cs) fun x hx => h x (by simp [hx])
    have e : body (c :: cs) = UInt8.ofNat c.length :: (c ++ body cs) := by simp [body, col]
    have e2 : (UInt8.ofNat c.length).toNat = c.length := by rw [UInt8.toNat_ofNat']; omega
    rw [e]
    simp only [List.length_cons, colsGo, e2]
    rw [if_neg (by simp; omega), List.drop_left, List.take_left, ih]
    rfl
theorem colsGo_some : ∀ {n : Nat} {b : List UInt8} {cs : List (List UInt8)}, colsGo n b = some cs → cs.length = n ∧ (∀ c ∈ cs, c.length ≤ 70) ∧ b = body cs
  | 0, [], cs, h => by simp [colsGo] at h; subst h; simp [body]
  | 0, _ :: _, cs, h => by simp [colsGo] at h
  | n + 1, [], cs, h => by simp [colsGo] at h
  | n + 1, k :: b, cs, h => by
    unfold colsGo at h
    split at h
    · cases h
    · rename_i h1
      rw [Option.map_eq_some_iff] at h
      obtain ⟨l, hl, rfl⟩ := h
      obtain ⟨i1, i2, i3⟩ := colsGo_some hl
      have hkl : (b.take k.toNat).length = k.toNat := by simp; omega
      refine ⟨by simp [i1], ?_, ?_⟩
      · intro c hc
        rcases List.mem_cons.1 hc with rfl | hc
        · omega
        · exact i2 c hc
      · have e : body (b.take k.toNat :: l) = UInt8.ofNat (b.take k.toNat).length :: (b.take k.toNat ++ body l) := by simp [body, col]
        rw [e, hkl, ← i3, List.take_append_drop]
        simp
theorem colsGo_more : ∀ {n : Nat} {b : List UInt8} {cs : List (List UInt8)} {y : List UInt8}, colsGo n b = some cs → y ≠ [] → colsGo n (b ++ y) = none
  | 0, [], cs, y, h, hy => by
    cases y with
    | nil => exact absurd rfl hy
    | cons c y => rfl
  | 0, _ :: _, cs, y, h, hy => by simp [colsGo] at h
  | n + 1, [], cs, y, h, hy => by simp [colsGo] at h
  | n + 1, k :: b, cs, y, h, hy => by
    unfold colsGo at h
    split at h
    · cases h
    · rename_i h1
      rw [Option.map_eq_some_iff] at h
      obtain ⟨l, hl, rfl⟩ := h
      have ih := colsGo_more hl hy
      simp only [List.cons_append, colsGo]
      rw [if_neg (by simp; omega), List.drop_append_of_le_length (by omega), ih]
      rfl
theorem row_ok {cs : List (List UInt8)} (h : (row cs).2 = 0) : cs.length ≤ 8 ∧ (∀ c ∈ cs, c.length ≤ 70) ∧ (row cs).1 = rowOut cs ∧ (rowOut cs).length ≤ 72 := by
  unfold row at h ⊢
  split at h
  · cases h
  · rename_i h1
    rw [if_neg h1]
    split at h
    · rename_i h2
      rw [if_pos h2]
      split at h
      · cases h
      · rename_i h3
        rw [if_neg h3]
        refine ⟨by omega, fun c hc => ?_, rfl, by omega⟩
        simpa using List.all_eq_true.1 h2 c hc
    · cases h
theorem columns_row {cs : List (List UInt8)} (h : (row cs).2 = 0) : columns (row cs).1 = (cs, 0) := by
  obtain ⟨h1, h2, h3, h4⟩ := row_ok h
  rw [h3]
  have e : (UInt8.ofNat cs.length).toNat = cs.length := by rw [UInt8.toNat_ofNat']; omega
  have hg := colsGo_body h2
  unfold columns
  rw [if_neg (by omega)]
  unfold rowOut
  simp only [e, hg]
  rw [if_neg (by omega)]
theorem row_columns {b : List UInt8} (h : (columns b).2 = 0) : row (columns b).1 = (b, 0) := by
  unfold columns at h ⊢
  split at h
  · cases h
  · rename_i h1
    rw [if_neg h1]
    split at h
    · cases h
    · rename_i n r
      split at h
      · cases h
      · rename_i h2
        rw [if_neg h2]
        split at h
        · rename_i cs hcs
          obtain ⟨i1, i2, i3⟩ := colsGo_some hcs
          have e : rowOut cs = n :: r := by
            unfold rowOut
            rw [i1, ← i3]; simp
          simp only [hcs]
          unfold row
          rw [if_neg (by omega), if_pos (by refine List.all_eq_true.2 fun c hc => ?_; simpa using i2 c hc), e, if_neg h1]
        · cases h
/-- A row that is cut is none; nor is one that goes on. -/
theorem row_cut {cs : List (List UInt8)} (h : (row cs).2 = 0) {m : Nat} (hm : m < (rowOut cs).length) : (columns ((rowOut cs).take m)).2 = 3 := by
  obtain ⟨h1, h2, h3, h4⟩ := row_ok h
  have e : (UInt8.ofNat cs.length).toNat = cs.length := by rw [UInt8.toNat_ofNat']; omega
  have hg := colsGo_body h2
  unfold columns
  rw [if_neg (by simp; omega)]
  unfold rowOut at hm ⊢
  cases m with
  | zero => rfl
  | succ m =>
    rw [List.take_succ_cons]
    simp only [e]
    rw [if_neg (by omega)]
    split
    · rename_i l hl
      exfalso
      have hne : (body cs).drop m ≠ [] := by
        intro h0
        have := congrArg List.length h0
        simp at this hm
        omega
      have := colsGo_more hl hne
      rw [List.take_append_drop, hg] at this
      cases this
    · rfl
theorem row_on {cs : List (List UInt8)} (h : (row cs).2 = 0) (k : UInt8) : (columns (rowOut cs ++ [k])).2 = 3 ∨ (columns (rowOut cs ++ [k])).2 = 6 ∧ (rowOut cs).length = 72 := by
  obtain ⟨h1, h2, h3, h4⟩ := row_ok h
  have e : (UInt8.ofNat cs.length).toNat = cs.length := by rw [UInt8.toNat_ofNat']; omega
  have hg := colsGo_body h2
  by_cases h5 : (rowOut cs).length = 72
  · right
    refine ⟨?_, h5⟩
    unfold columns
    rw [if_pos (by simp; omega)]
  · left
    unfold columns
    rw [if_neg (by simp; omega)]
    unfold rowOut
    simp only [List.cons_append, e]
    rw [if_neg (by omega), colsGo_more hg (by simp)]
end Go.Proofs.YtjeiojibnmfibaaGreatDoor

/-
  Events of a chain; numbers as texts, the reference's; the hash behind an event.
-/
set_option linter.all false
set_option maxRecDepth 10000
namespace Go.Proofs.YtjeiojibnmfibaaGreatDoor
open Go Hold
variable {E : World0} {w : World} {H R : HP} {K : Value → World → Prop}
theorem Dbt.up {H0 H1 R1 : HP} (h : Dbt H1) [s : Split H0 H1 R1] : Dbt H0 := fun E w hs => h E w (hs.split H1).drop'
theorem digit_spec {n : Nat} (hn : n < 16) (k : K (bv (dig n)) w) : Calls prog 49 #[.int .i64 (n : Int)] w (Ret K) := by
  refine c49 ?_
  unfold B49
  have e : (.string ⟨#[48, 49, 50, 51, 52, 53, 54, 55, 56, 57, 97, 98, 99, 100, 101, 102]⟩ : Value) = tv digs := rfl
  rw [e, o_indexT (by omega) (by rw [Int.toNat_natCast]; exact hn)]
  exact k
theorem RNumber_spec (h : sat E w H) {n : Int} (k : ∀ w', sat E w' H → K (nv2 (number n)) w') : Calls prog 39 #[.int .i64 n] w (Ret K) := by
  refine c39 ?_
  unfold B39
  rw [o_lss]
  by_cases h1 : n < 0
  · simp only [h1, ↓o_nil, ↓o_field, ↓o_add, ↓o_sub, ↓o_mul, ↓o_lss, ↓o_leq, ↓o_gtr, ↓o_geq, ↓o_not, ↓o_pick, ↓o_eqInt, ↓o_neInt, ↓o_eqBool, ↓o_neBool, ↓o_eqPtr, ↓o_nePtr, ↓o_eqPtr', ↓o_eqSl, ↓o_neSl, ↓o_eqStr, ↓o_neStr, ↓o_len, ↓o_lenS, ↓o_min, ↓o_max, ↓o_extract, ↓o_convInt, ↓cd_true, ↓cd_false, ↓gate_tt, ↓gate_ff, ↓gate_tf, ↓gate_ft, ↓gate_undef, ↓o_bind, ↓stay_v, ↓pop_cons, ↓fin_nil, Option.isNone_none, Option.isNone_some, Bool.not_true, Bool.not_false, Nat.zero_add, decide_true, decide_false, if_true, if_false, Bool.false_eq_true, ↓reduceIte]
    have e : number n = ([], 2) := by unfold number; rw [if_pos (.inl h1)]
    rw [e] at k
    exact k _ h
  simp only [h1, ↓o_nil, ↓o_field, ↓o_add, ↓o_sub, ↓o_mul, ↓o_lss, ↓o_leq, ↓o_gtr, ↓o_geq, ↓o_not, ↓o_pick, ↓o_eqInt, ↓o_neInt, ↓o_eqBool, ↓o_neBool, ↓o_eqPtr, ↓o_nePtr, ↓o_eqPtr', ↓o_eqSl, ↓o_neSl, ↓o_eqStr, ↓o_neStr, ↓o_len, ↓o_lenS, ↓o_min, ↓o_max, ↓o_extract, ↓o_convInt, ↓cd_true, ↓cd_false, ↓gate_tt, ↓gate_ff, ↓gate_tf, ↓gate_ft, ↓gate_undef, ↓o_bind, ↓stay_v, ↓pop_cons, ↓fin_nil, Option.isNone_none, Option.isNone_some, Bool.not_true, Bool.not_false, Nat.zero_add, decide_true, decide_false, if_true, if_false, Bool.false_eq_true, ↓reduceIte]
  by_cases h2 : 4611686018427387904 < n
  · simp only [h2, ↓o_nil, ↓o_field, ↓o_add, ↓o_sub, ↓o_mul, ↓o_lss, ↓o_leq, ↓o_gtr, ↓o_geq, ↓o_not, ↓o_pick, ↓o_eqInt, ↓o_neInt, ↓o_eqBool, ↓o_neBool, ↓o_eqPtr, ↓o_nePtr, ↓o_eqPtr', ↓o_eqSl, ↓o_neSl, ↓o_eqStr, ↓o_neStr, ↓o_len, ↓o_lenS, ↓o_min, ↓o_max, ↓o_extract, ↓o_convInt, ↓cd_true, ↓cd_false, ↓gate_tt, ↓gate_ff, ↓gate_tf, ↓gate_ft, ↓gate_undef, ↓o_bind, ↓stay_v, ↓pop_cons, ↓fin_nil, Option.isNone_none, Option.isNone_some, Bool.not_true, Bool.not_false, Nat.zero_add, decide_true, decide_false, if_true, if_false, Bool.false_eq_true, ↓reduceIte]
    have e : number n = ([], 2) := by unfold number; rw [if_pos (.inr h2)]
    rw [e] at k
    exact k _ h
  simp only [h2, ↓o_nil, ↓o_field, ↓o_add, ↓o_sub, ↓o_mul, ↓o_lss, ↓o_leq, ↓o_gtr, ↓o_geq, ↓o_not, ↓o_pick, ↓o_eqInt, ↓o_neInt, ↓o_eqBool, ↓o_neBool, ↓o_eqPtr, ↓o_nePtr, ↓o_eqPtr', ↓o_eqSl, ↓o_neSl, ↓o_eqStr, ↓o_neStr, ↓o_len, ↓o_lenS, ↓o_min, ↓o_max, ↓o_extract, ↓o_convInt, ↓cd_true, ↓cd_false, ↓gate_tt, ↓gate_ff, ↓gate_tf, ↓gate_ft, ↓gate_undef, ↓o_bind, ↓stay_v, ↓pop_cons, ↓fin_nil, Option.isNone_none, Option.isNone_some, Bool.not_true, Bool.not_false, Nat.zero_add, decide_true, decide_false, if_true, if_false, Bool.false_eq_true, ↓reduceIte]
  obtain ⟨n, rfl⟩ := Int.eq_ofNat_of_zero_le (show 0 ≤ n by omega)
  have e : number (n : Int) = (numText n, 0) := by unfold number; rw [if_neg (by omega)]; rfl
  rw [e] at k
  have hlen : (hexs n).length ≤ 16 := hexs_length 16 n (by show n < 16 ^ 16; omega)
  refine lp_nat (fun q σ w => ∃ (m : Nat) (s : List UInt8), σ = [.int .i64 (m : Int), tv s, .int .i64 (s.length : Int)] ∧ q = m ∧ m ≤ n ∧ hexs n = hexs m ++ s ∧ sat E w H) n ⟨n, [], rfl, rfl, Nat.le_refl _, by simp, h⟩ ?_
  clear h
  rintro m σ w again ⟨_, s, rfl, rfl, hm, hs, h⟩ hag
  have hl : s.length ≤ 16 := by rw [hs, List.length_append] at hlen; omega
  rw [pop_cons, pop_cons, pop_cons, fin_nil, o_gtr]
  refine cd_dec (fun hlt => ?_) (fun hge => ?_)
  · rw [o_rem (by decide)]
    have e1 : (m : Int).tmod 16 = ((m % 16 : Nat) : Int) := by rw [Int.tmod_eq_emod_of_nonneg (by omega)]; omega
    rw [e1]
    refine digit_spec (by omega) ?_
    refine buildSlice_sl (e := 5) (cs := #[bv (dig (m % 16))]) h (fun w => by kernel_rfl) fun b1 w h => ?_
    refine conv_bs (l := [dig (m % 16)]) ((rds_row (b := b1) (e := 5) (xs := [bv (dig (m % 16))]) (sp := []) (Nat.le_refl _)) _ _ h) ?_
    have e3 : (.string ⟨[dig (m % 16)].toArray⟩ : Value) = tv [dig (m % 16)] := rfl
    rw [e3, o_catT (by simp; omega), o_add, i64_of (by omega) (by omega), o_quo (by decide)]
    have e2 : (m : Int).tdiv 16 = ((m / 16 : Nat) : Int) := by rw [Int.tdiv_eq_ediv_of_nonneg (by omega)]; omega
    rw [e2, i64_of (by omega) (by omega)]
    refine hag (m / 16) _ _ (by omega) ⟨m / 16, dig (m % 16) :: s, ?_, rfl, by omega, ?_, h.drop⟩
    · simp only [List.length_cons, List.cons_append, List.nil_append]; congr 1
    · rw [hs, hexs_pos (show m ≠ 0 by omega)]; simp
  · have h0 : m = 0 := by omega
    subst h0
    rw [hexs_zero, List.nil_append] at hs
    rw [o_add, i64_of (by omega) (by omega), o_convInt, show (97 : Int) + (s.length : Int) = ((97 + s.length : Nat) : Int) by omega, bv_len (show 97 + s.length < 256 by omega)]
    refine buildSlice_sl (e := 5) (cs := #[bv (UInt8.ofNat (97 + s.length))]) h (fun w => by kernel_rfl) fun b1 w h => ?_
    refine conv_bs (l := [UInt8.ofNat (97 + s.length)]) ((rds_row (b := b1) (e := 5) (xs := [bv (UInt8.ofNat (97 + s.length))]) (sp := []) (Nat.le_refl _)) _ _ h) ?_
    have e3 : (.string ⟨[UInt8.ofNat (97 + s.length)].toArray⟩ : Value) = tv [UInt8.ofNat (97 + s.length)] := rfl
    rw [e3, o_catT (by simp; omega)]
    have e4 : [UInt8.ofNat (97 + s.length)] ++ s = numText n := by unfold numText; rw [hs]; rfl
    rw [e4]
    exact k _ h.drop
def numT (n : Int) : List UInt8 := (number n).1
theorem num_spec (h : sat E w H) (hd : Dbt H) {n : Int} (k : ∀ w', sat E w' H → K (tv (numT n)) w') : Calls prog 28 #[.int .i64 n] w (Ret K) := by
  refine c28 ?_
  unfold B28
  refine Number_spec h hd fun w h => ?_
  unfold nv2
  rw [o_extract, o_extract]
  exact k _ h
theorem Num_spec (h : sat E w H) {n : Int} (k : ∀ w', sat E w' H → K (tv (numT n)) w') : Calls prog 23 #[.int .i64 n] w (Ret K) := by
  refine c23 ?_
  unfold B23
  refine RNumber_spec h fun w h => ?_
  unfold nv2
  rw [o_extract, o_extract]
  exact k _ h
/-- An event. -/
structure Evt where
  n : Int
  t : Int
  what : List UInt8
  who : List UInt8
  deriving DecidableEq
def ecells (x : Evt) : List Value := [.int .i64 x.n, .int .i64 x.t, tv x.what, tv x.who]
def ev (x : Evt) : Value := .agg (ecells x).toArray
def evs (l : List Evt) : List Value := l.flatMap ecells
def zeroE : Evt := ⟨0, 0, [], []⟩
theorem ecells_one (x : Evt) : ∀ v ∈ ecells x, v.oneCell' = true := by
  intro v hv
  simp [ecells] at hv
  rcases hv with rfl | rfl | rfl | rfl <;> rfl
theorem evs_one (l : List Evt) : ∀ v ∈ evs l, v.oneCell' = true := by
  intro v hv
  obtain ⟨x, _, hx⟩ := List.mem_flatMap.1 hv
  exact ecells_one x v hx
theorem evs_length : ∀ (l : List Evt), (evs l).length = l.length * 4
  | [] => rfl
  | x :: l => by
    have := evs_length l
    simp only [evs, List.flatMap_cons, List.length_append, List.length_cons] at this ⊢
    rw [this]; simp [ecells]; omega
theorem evs_append (a b : List Evt) : evs (a ++ b) = evs a ++ evs b := by simp [evs]
theorem evs_drop : ∀ (l : List Evt) (i : Nat), (evs l).drop (i * 4) = evs (l.drop i)
  | l, 0 => by simp
  | [], i + 1 => by simp [evs]
  | x :: l, i + 1 => by
    have e : evs (x :: l) = ecells x ++ evs l := rfl
    rw [e, List.drop_append, show (i + 1) * 4 = i * 4 + 4 by omega]
    simp [ecells, evs_drop l i]
theorem evs_at {l : List Evt} {i : Nat} {x : Evt} (h : l[i]? = some x) : ((evs l).drop (i * 4)).take 4 = ecells x := by
  rw [evs_drop]
  have hlt := (List.getElem?_eq_some_iff.1 h).1
  rw [List.drop_eq_getElem_cons hlt, (List.getElem?_eq_some_iff.1 h).2]
  rfl
def colsE (x : Evt) : List (List UInt8) := [numT x.n, numT x.t, x.what, x.who]
def rowE (x : Evt) : List UInt8 := (row (colsE x)).1
def nx (h : List UInt8) (x : Evt) : List UInt8 := sha (h ++ rowE x)
theorem nx_length (h : List UInt8) (x : Evt) : (nx h x).length = 32 := sha_length _
theorem row_le (cs : List (List UInt8)) : (row cs).1.length ≤ 72 := by
  unfold row
  split
  · simp
  · split
    · split
      · simp
      · simp only; omega
    · simp
theorem next_spec (h : sat E w H) (hd : Dbt H) {l : List UInt8} (hl : l.length = 32) {x : Evt} (k : ∀ w', sat E w' H → K (.agg ((nx l x).map bv).toArray) w') : Calls prog 35 #[.agg (l.map bv).toArray, ev x] w (Ret K) := by
  refine c35 ?_
  unfold B35
  refine box_sl h fun b1 w h => ?_
  have h : sat E w (pts b1 (.cells (l.map bv).toArray 44 (0, 0)) * H) := h
  refine box_sl h fun b2 w h => ?_
  have h : sat E w (pts b2 (.cells (ecells x).toArray 56 (0, 0)) * (pts b1 (.cells (l.map bv).toArray 44 (0, 0)) * H)) := h
  refine alloc_sl h fun b3 w h => ?_
  have h : sat E w (pts b3 (.cells ((List.replicate 32 (0 : UInt8)).map bv).toArray 44 (0, 0)) * (pts b2 (.cells (ecells x).toArray 56 (0, 0)) * (pts b1 (.cells (l.map bv).toArray 44 (0, 0)) * H))) := h
  refine dr_sl h fun w h _ => ?_
  simp only [↓o_nil, ↓o_field, ↓o_add, ↓o_sub, ↓o_mul, ↓o_lss, ↓o_leq, ↓o_gtr, ↓o_geq, ↓o_not, ↓o_pick, ↓o_eqInt, ↓o_neInt, ↓o_eqBool, ↓o_neBool, ↓o_eqPtr, ↓o_nePtr, ↓o_eqPtr', ↓o_eqSl, ↓o_neSl, ↓o_eqStr, ↓o_neStr, ↓o_len, ↓o_lenS, ↓o_min, ↓o_max, ↓o_extract, ↓o_convInt, ↓cd_true, ↓cd_false, ↓gate_tt, ↓gate_ff, ↓gate_tf, ↓gate_ft, ↓gate_undef, ↓o_bind, ↓stay_v, ↓pop_cons, ↓fin_nil, Option.isNone_none, Option.isNone_some, Bool.not_true, Bool.not_false, Nat.zero_add, decide_true, decide_false, if_true, if_false, Bool.false_eq_true, ↓reduceIte]
  refine ld_in (b := b2) (v := .int .i64 x.n) h rfl ?_
  refine ld_in (b := b2) (v := .int .i64 x.t) h rfl ?_
  refine ld_in (b := b2) (v := tv x.what) h rfl ?_
  refine ld_in (b := b2) (v := tv x.who) h rfl ?_
  have hd3 : Dbt (pts b3 (.cells ((List.replicate 32 (0 : UInt8)).map bv).toArray 44 (0, 0)) * (pts b2 (.cells (ecells x).toArray 56 (0, 0)) * (pts b1 (.cells (l.map bv).toArray 44 (0, 0)) * H))) := hd.right.right.right
  refine num_spec h hd3 fun w h => ?_
  refine st_cell (cell_of ((h.drop.own b2).pts_get) (by rfl)) ?_
  refine st_cell (cell_of ((h.drop.own b2).pts_get) (by rfl)) ?_
  refine st_cell (cell_of ((h.drop.own b2).pts_get) (by rfl)) ?_
  refine num_spec h hd3 fun w h => ?_
  refine st_cell (cell_of ((h.drop.own b2).pts_get) (by rfl)) ?_
  refine st_cell (cell_of ((h.drop.own b2).pts_get) (by rfl)) ?_
  refine st_cell (cell_of ((h.drop.own b2).pts_get) (by rfl)) ?_
  refine buildSlice_sl (e := 9) (cs := ((colsE x).map tv).toArray) h (fun w => by kernel_rfl) fun b4 w h => ?_
  refine st_cell (cell_of ((h.drop.drop.own b2).pts_get) (by rfl)) ?_
  refine st_cell (cell_of ((h.drop.drop.own b2).pts_get) (by rfl)) ?_
  refine Row_spec (ps := colsE x) h (rds_block (b := b4) (Nat.le_refl _)) (by simp [colsE]) fun v w h => ?_
  refine st_cell (cell_of ((h.drop.drop.drop.own b2).pts_get) (by rfl)) ?_
  refine st_cell (cell_of ((h.drop.drop.drop.own b2).pts_get) (by rfl)) ?_
  refine st_cell (cell_of ((h.drop.drop.drop.own b2).pts_get) (by rfl)) ?_
  refine st_cell (cell_of ((h.drop.drop.drop.own b2).pts_get) (by rfl)) ?_
  rw [o_extract, o_extract]
  refine ld_agg (b := b1) h (by simpa using hl) ?_
  have hr := row_le (colsE x)
  refine Chain_spec h hl Rds.osl.left (by omega) fun w h => ?_
  exact hash_ret (b := b3) h (sha_length _) (by simp) fun w h => k _ h.drop.drop.drop.drop.drop
theorem Bytes_spec (h : sat E w H) {x : Evt} (k : ∀ v w', sat E w' (osl 5 1 v (rowE x).length ((rowE x).map bv) * H) → K v w') : Calls prog 32 #[ev x] w (Ret K) := by
  refine c32 ?_
  unfold B32
  refine box_sl h fun b2 w h => ?_
  have h : sat E w (pts b2 (.cells (ecells x).toArray 56 (0, 0)) * H) := h
  refine dr_sl h fun w h _ => ?_
  simp only [↓o_nil, ↓o_field, ↓o_add, ↓o_sub, ↓o_mul, ↓o_lss, ↓o_leq, ↓o_gtr, ↓o_geq, ↓o_not, ↓o_pick, ↓o_eqInt, ↓o_neInt, ↓o_eqBool, ↓o_neBool, ↓o_eqPtr, ↓o_nePtr, ↓o_eqPtr', ↓o_eqSl, ↓o_neSl, ↓o_eqStr, ↓o_neStr, ↓o_len, ↓o_lenS, ↓o_min, ↓o_max, ↓o_extract, ↓o_convInt, ↓cd_true, ↓cd_false, ↓gate_tt, ↓gate_ff, ↓gate_tf, ↓gate_ft, ↓gate_undef, ↓o_bind, ↓stay_v, ↓pop_cons, ↓fin_nil, Option.isNone_none, Option.isNone_some, Bool.not_true, Bool.not_false, Nat.zero_add, decide_true, decide_false, if_true, if_false, Bool.false_eq_true, ↓reduceIte]
  refine ld_in (b := b2) (v := .int .i64 x.n) h rfl ?_
  refine ld_in (b := b2) (v := .int .i64 x.t) h rfl ?_
  refine ld_in (b := b2) (v := tv x.what) h rfl ?_
  refine ld_in (b := b2) (v := tv x.who) h rfl ?_
  refine Num_spec h fun w h => ?_
  refine st_cell (cell_of ((h.own b2).pts_get) (by rfl)) ?_
  refine st_cell (cell_of ((h.own b2).pts_get) (by rfl)) ?_
  refine st_cell (cell_of ((h.own b2).pts_get) (by rfl)) ?_
  refine Num_spec h fun w h => ?_
  refine st_cell (cell_of ((h.own b2).pts_get) (by rfl)) ?_
  refine st_cell (cell_of ((h.own b2).pts_get) (by rfl)) ?_
  refine st_cell (cell_of ((h.own b2).pts_get) (by rfl)) ?_
  refine buildSlice_sl (e := 9) (cs := ((colsE x).map tv).toArray) h (fun w => by kernel_rfl) fun b4 w h => ?_
  refine st_cell (cell_of ((h.drop.own b2).pts_get) (by rfl)) ?_
  refine st_cell (cell_of ((h.drop.own b2).pts_get) (by rfl)) ?_
  refine RRow_spec (ps := colsE x) h (rds_block (b := b4) (Nat.le_refl _)) (by simp [colsE]) fun v w h => ?_
  refine st_cell (cell_of ((h.drop.drop.own b2).pts_get) (by rfl)) ?_
  refine st_cell (cell_of ((h.drop.drop.own b2).pts_get) (by rfl)) ?_
  refine st_cell (cell_of ((h.drop.drop.own b2).pts_get) (by rfl)) ?_
  refine st_cell (cell_of ((h.drop.drop.own b2).pts_get) (by rfl)) ?_
  rw [o_extract, o_extract]
  refine k _ _ ?_
  have h := (h.perm (show _ = pts b4 _ * (pts b2 _ * (osl 5 1 v (row (colsE x)).1.length ((row (colsE x)).1.map bv) * H)) by ac_rfl))
  exact h.drop.drop
end Go.Proofs.YtjeiojibnmfibaaGreatDoor

/-
  A chain as it is held; its simple functions; adding.
-/
set_option linter.all false
set_option maxRecDepth 10000
namespace Go.Proofs.YtjeiojibnmfibaaGreatDoor
open Go Hold
variable {E : World0} {w : World} {H R : HP} {K : Value → World → Prop}
/-- A chain: the base, the anchor, the head, the last time, the events. -/
structure Ch where
  bn : Int
  bh : List UInt8
  an : Int
  ah : List UInt8
  hd : List UInt8
  last : Int
  l : List Evt
structure Ok (s : Ch) (m : Nat) : Prop where
  b : s.bh.length = 32
  a : s.ah.length = 32
  h : s.hd.length = 32
  b0 : 0 ≤ s.bn
  a0 : 0 ≤ s.an
  le : s.an ≤ s.bn + s.l.length
  top : s.bn + s.l.length ≤ m
  few : s.l.length ≤ 64
def icells (s : Ch) (v : Value) : List Value := .int .i64 s.bn :: (s.bh.map bv ++ (.int .i64 s.an :: (s.ah.map bv ++ (s.hd.map bv ++ [.int .i64 s.last, v]))))
theorem part_at {xs : List Value} (A B C : List Value) {o n : Nat} (e : xs = A ++ (B ++ C)) (hA : A.length = o) (hB : B.length = n) : (xs.drop o).take n = B := by rw [e, List.drop_left' hA, List.take_left' hB]
theorem part_cell {xs : List Value} (A C : List Value) {x : Value} {o : Nat} (e : xs = A ++ ([x] ++ C)) (hA : A.length = o) : xs[o]? = some x := by
  have := take_cell (j := 0) (v := x) (part_at A [x] C e hA rfl) rfl
  simpa using this
theorem part_put {xs : List Value} (A B C B' : List Value) {ys : List Value} {o n : Nat} (e : xs = A ++ (B ++ C)) (hA : A.length = o) (hB : B.length = n) (e' : A ++ (B' ++ C) = ys) : xs.take o ++ B' ++ xs.drop (o + n) = ys := by
  rw [e, List.take_left' hA, ← List.append_assoc A B C, List.drop_left' (by rw [List.length_append, hA, hB]), List.append_assoc]
  exact e'
theorem part_set {xs : List Value} (A C : List Value) {x y : Value} {ys : List Value} {o : Nat} (e : xs = A ++ ([x] ++ C)) (hA : A.length = o) (e' : A ++ ([y] ++ C) = ys) : xs.set o y = ys := by
  rw [← take_set_drop xs o y (by rw [e]; simp [hA])]
  exact part_put A [x] C [y] e hA rfl e'
section
variable {s : Ch} {v : Value} {m : Nat}
theorem ic_length (ok : Ok s m) : (icells s v).length = 100 := by simp [icells, ok.b, ok.a, ok.h]
theorem ic_bn : (icells s v)[0]? = some (.int .i64 s.bn) := rfl
theorem ic_an (ok : Ok s m) : (icells s v)[33]? = some (.int .i64 s.an) := part_cell (.int .i64 s.bn :: s.bh.map bv) (s.ah.map bv ++ (s.hd.map bv ++ [.int .i64 s.last, v])) (by simp [icells]) (by simp [ok.b])
theorem ic_last (ok : Ok s m) : (icells s v)[98]? = some (.int .i64 s.last) := part_cell (.int .i64 s.bn :: (s.bh.map bv ++ (.int .i64 s.an :: (s.ah.map bv ++ s.hd.map bv)))) [v] (by simp [icells]) (by simp [ok.b, ok.a, ok.h])
theorem ic_l (ok : Ok s m) : (icells s v)[99]? = some v := part_cell (.int .i64 s.bn :: (s.bh.map bv ++ (.int .i64 s.an :: (s.ah.map bv ++ (s.hd.map bv ++ [.int .i64 s.last]))))) [] (by simp [icells]) (by simp [ok.b, ok.a, ok.h])
theorem ic_ah (ok : Ok s m) : ((icells s v).drop 34).take 32 = s.ah.map bv := part_at (.int .i64 s.bn :: (s.bh.map bv ++ [.int .i64 s.an])) _ (s.hd.map bv ++ [.int .i64 s.last, v]) (by simp [icells]) (by simp [ok.b]) (by simp [ok.a])
theorem ic_hd (ok : Ok s m) : ((icells s v).drop 66).take 32 = s.hd.map bv := part_at (.int .i64 s.bn :: (s.bh.map bv ++ (.int .i64 s.an :: s.ah.map bv))) _ [.int .i64 s.last, v] (by simp [icells]) (by simp [ok.b, ok.a]) (by simp [ok.h])
theorem ic_base (ok : Ok s m) : ((icells s v).drop 0).take 33 = .int .i64 s.bn :: s.bh.map bv := part_at [] _ (.int .i64 s.an :: (s.ah.map bv ++ (s.hd.map bv ++ [.int .i64 s.last, v]))) (by simp [icells]) rfl (by simp [ok.b])
theorem ic_anchor (ok : Ok s m) : ((icells s v).drop 33).take 33 = .int .i64 s.an :: s.ah.map bv := part_at (.int .i64 s.bn :: s.bh.map bv) _ (s.hd.map bv ++ [.int .i64 s.last, v]) (by simp [icells]) (by simp [ok.b]) (by simp [ok.a])
theorem ip_l (ok : Ok s m) {l : List Evt} {u : Value} : (icells s v).set 99 u = icells { s with l := l } u := part_set (.int .i64 s.bn :: (s.bh.map bv ++ (.int .i64 s.an :: (s.ah.map bv ++ (s.hd.map bv ++ [.int .i64 s.last]))))) [] (x := v) (by simp [icells]) (by simp [ok.b, ok.a, ok.h]) (by simp [icells])
theorem ip_last (ok : Ok s m) {t : Int} : (icells s v).set 98 (.int .i64 t) = icells { s with last := t } v := part_set (.int .i64 s.bn :: (s.bh.map bv ++ (.int .i64 s.an :: (s.ah.map bv ++ s.hd.map bv)))) [v] (x := .int .i64 s.last) (by simp [icells]) (by simp [ok.b, ok.a, ok.h]) (by simp [icells])
theorem ip_hd (ok : Ok s m) {h : List UInt8} : (icells s v).take 66 ++ h.map bv ++ (icells s v).drop (66 + 32) = icells { s with hd := h } v := part_put (.int .i64 s.bn :: (s.bh.map bv ++ (.int .i64 s.an :: s.ah.map bv))) (s.hd.map bv) [.int .i64 s.last, v] _ (by simp [icells]) (by simp [ok.b, ok.a]) (by simp [ok.h]) (by simp [icells])
theorem ip_anchor (ok : Ok s m) {n : Int} {h : List UInt8} : (icells s v).take 33 ++ (.int .i64 n :: h.map bv) ++ (icells s v).drop (33 + 33) = icells { s with an := n, ah := h } v := part_put (.int .i64 s.bn :: s.bh.map bv) (.int .i64 s.an :: s.ah.map bv) (s.hd.map bv ++ [.int .i64 s.last, v]) _ (by simp [icells]) (by simp [ok.b]) (by simp [ok.a]) (by simp [icells])
theorem ip_base (ok : Ok s m) {n : Int} {h : List UInt8} : (icells s v).take 0 ++ (.int .i64 n :: h.map bv) ++ (icells s v).drop (0 + 33) = icells { s with bn := n, bh := h } v := part_put [] (.int .i64 s.bn :: s.bh.map bv) (.int .i64 s.an :: (s.ah.map bv ++ (s.hd.map bv ++ [.int .i64 s.last, v]))) _ (by simp [icells]) rfl (by simp [ok.b]) (by simp [icells])
end
abbrev chI (p : Nat) (s : Ch) (v : Value) (R : HP) : HP := pts p (.cells (icells s v).toArray 52 (0, 0)) * (pers (immS v s.l.length (evs s.l)) * R)
theorem Rds.evs {v : Value} {s : Ch} {p : Nat} {R : HP} : Rds (chI p s v R) v s.l.length (evs s.l) := Rds.pers.left.right
def zeros32 : List UInt8 := List.replicate 32 0
def newS : Ch := ⟨0, zeros32, 0, zeros32, zeros32, 0, []⟩
theorem ok_new : Ok newS 0 := ⟨rfl, rfl, rfl, by decide, by decide, by decide, by decide, by decide⟩
theorem New_spec (h : sat E w R) (k : ∀ p w', sat E w' (chI p newS (.slice none 0 0) R) → K (.pointer (some ⟨p, 0, none⟩)) w') : Calls prog 4 #[] w (Ret K) := by
  refine c4 ?_
  unfold B4
  refine pvv_of (v := .agg (icells newS (.slice none 0 0)).toArray) (fun w => by kernel_rfl) ?_
  refine box_sl h fun p w h => k p w ?_
  have h : sat E w (pts p (.cells (icells newS (.slice none 0 0)).toArray 52 (0, 0)) * R) := h
  unfold chI
  rw [star_left_comm]
  exact h.mono fun I h' hp' => (pers_star_p _ _ _ _).2 ⟨⟨none, 0, rfl, Nat.le_refl _, .inl rfl⟩, hp'⟩
theorem Count_spec {p m : Nat} {s : Ch} {a : Option Addr} {c : Nat} (ok : Ok s m) (hm : m ≤ 1000000000000000) (h : sat E w H) [Has H p (.cells (icells s (.slice a s.l.length c)).toArray 52 (0, 0))]
    (k : ∀ w', sat E w' H → K (.int .i64 (s.bn + s.l.length)) w') : Calls prog 34 #[.pointer (some ⟨p, 0, none⟩)] w (Ret K) := by
  have := ok.b0; have := ok.top; have := ok.few
  refine c34 ?_
  unfold B34
  try simp only [↓o_nil, ↓o_field, ↓o_add, ↓o_sub, ↓o_mul, ↓o_lss, ↓o_leq, ↓o_gtr, ↓o_geq, ↓o_not, ↓o_pick, ↓o_eqInt, ↓o_neInt, ↓o_eqBool, ↓o_neBool, ↓o_eqPtr, ↓o_nePtr, ↓o_eqPtr', ↓o_eqSl, ↓o_neSl, ↓o_eqStr, ↓o_neStr, ↓o_len, ↓o_lenS, ↓o_min, ↓o_max, ↓o_extract, ↓o_convInt, ↓cd_true, ↓cd_false, ↓gate_tt, ↓gate_ff, ↓gate_tf, ↓gate_ft, ↓gate_undef, ↓o_bind, ↓stay_v, ↓pop_cons, ↓fin_nil, Option.isNone_none, Option.isNone_some, Bool.not_true, Bool.not_false, Nat.zero_add, decide_true, decide_false, if_true, if_false, Bool.false_eq_true, ↓reduceIte]
  refine dr_sl h fun w h _ => ?_
  try simp only [↓o_nil, ↓o_field, ↓o_add, ↓o_sub, ↓o_mul, ↓o_lss, ↓o_leq, ↓o_gtr, ↓o_geq, ↓o_not, ↓o_pick, ↓o_eqInt, ↓o_neInt, ↓o_eqBool, ↓o_neBool, ↓o_eqPtr, ↓o_nePtr, ↓o_eqPtr', ↓o_eqSl, ↓o_neSl, ↓o_eqStr, ↓o_neStr, ↓o_len, ↓o_lenS, ↓o_min, ↓o_max, ↓o_extract, ↓o_convInt, ↓cd_true, ↓cd_false, ↓gate_tt, ↓gate_ff, ↓gate_tf, ↓gate_ft, ↓gate_undef, ↓o_bind, ↓stay_v, ↓pop_cons, ↓fin_nil, Option.isNone_none, Option.isNone_some, Bool.not_true, Bool.not_false, Nat.zero_add, decide_true, decide_false, if_true, if_false, Bool.false_eq_true, ↓reduceIte]
  refine ld_in (b := p) (v := .int .i64 s.bn) h ic_bn ?_
  refine ld_in (b := p) (v := .slice a s.l.length c) h (ic_l ok) ?_
  rw [o_len, o_add, i64_of (by omega) (by omega)]
  exact k _ h
theorem Count_nil (k : K (.int .i64 0) w) : Calls prog 34 #[.pointer none] w (Ret K) := by
  refine c34 ?_
  unfold B34
  try simp only [↓o_nil, ↓o_field, ↓o_add, ↓o_sub, ↓o_mul, ↓o_lss, ↓o_leq, ↓o_gtr, ↓o_geq, ↓o_not, ↓o_pick, ↓o_eqInt, ↓o_neInt, ↓o_eqBool, ↓o_neBool, ↓o_eqPtr, ↓o_nePtr, ↓o_eqPtr', ↓o_eqSl, ↓o_neSl, ↓o_eqStr, ↓o_neStr, ↓o_len, ↓o_lenS, ↓o_min, ↓o_max, ↓o_extract, ↓o_convInt, ↓cd_true, ↓cd_false, ↓gate_tt, ↓gate_ff, ↓gate_tf, ↓gate_ft, ↓gate_undef, ↓o_bind, ↓stay_v, ↓pop_cons, ↓fin_nil, Option.isNone_none, Option.isNone_some, Bool.not_true, Bool.not_false, Nat.zero_add, decide_true, decide_false, if_true, if_false, Bool.false_eq_true, ↓reduceIte]
  exact k
theorem zeroH_build {K : Value → World → Prop} (k : K (.agg (zeros32.map bv).toArray) w) : pvv prog (Instr.build 44 #[]) w K := pvv_of (fun w => by kernel_rfl) k
theorem Head_spec {p m : Nat} {s : Ch} {v : Value} (ok : Ok s m) (h : sat E w H) [Has H p (.cells (icells s v).toArray 52 (0, 0))]
    (k : ∀ w', sat E w' H → K (.agg (s.hd.map bv).toArray) w') : Calls prog 16 #[.pointer (some ⟨p, 0, none⟩)] w (Ret K) := by
  refine c16 ?_
  unfold B16
  refine alloc_sl h fun b w h => ?_
  have h : sat E w (pts b (.cells (zeros32.map bv).toArray 44 (0, 0)) * H) := h
  try simp only [↓o_nil, ↓o_field, ↓o_add, ↓o_sub, ↓o_mul, ↓o_lss, ↓o_leq, ↓o_gtr, ↓o_geq, ↓o_not, ↓o_pick, ↓o_eqInt, ↓o_neInt, ↓o_eqBool, ↓o_neBool, ↓o_eqPtr, ↓o_nePtr, ↓o_eqPtr', ↓o_eqSl, ↓o_neSl, ↓o_eqStr, ↓o_neStr, ↓o_len, ↓o_lenS, ↓o_min, ↓o_max, ↓o_extract, ↓o_convInt, ↓cd_true, ↓cd_false, ↓gate_tt, ↓gate_ff, ↓gate_tf, ↓gate_ft, ↓gate_undef, ↓o_bind, ↓stay_v, ↓pop_cons, ↓fin_nil, Option.isNone_none, Option.isNone_some, Bool.not_true, Bool.not_false, Nat.zero_add, decide_true, decide_false, if_true, if_false, Bool.false_eq_true, ↓reduceIte]
  refine ld_part (b := p) h (s.hd.map bv) (by simp [ok.h]) (ic_hd ok) ?_
  exact hash_ret (b := b) h ok.h (ol := zeros32) rfl fun w h => k _ h.drop
theorem Head_nil (h : sat E w H) (k : ∀ w', sat E w' H → K (.agg (zeros32.map bv).toArray) w') : Calls prog 16 #[.pointer none] w (Ret K) := by
  refine c16 ?_
  unfold B16
  refine alloc_sl h fun b w h => ?_
  have h : sat E w (pts b (.cells (zeros32.map bv).toArray 44 (0, 0)) * H) := h
  try simp only [↓o_nil, ↓o_field, ↓o_add, ↓o_sub, ↓o_mul, ↓o_lss, ↓o_leq, ↓o_gtr, ↓o_geq, ↓o_not, ↓o_pick, ↓o_eqInt, ↓o_neInt, ↓o_eqBool, ↓o_neBool, ↓o_eqPtr, ↓o_nePtr, ↓o_eqPtr', ↓o_eqSl, ↓o_neSl, ↓o_eqStr, ↓o_neStr, ↓o_len, ↓o_lenS, ↓o_min, ↓o_max, ↓o_extract, ↓o_convInt, ↓cd_true, ↓cd_false, ↓gate_tt, ↓gate_ff, ↓gate_tf, ↓gate_ft, ↓gate_undef, ↓o_bind, ↓stay_v, ↓pop_cons, ↓fin_nil, Option.isNone_none, Option.isNone_some, Bool.not_true, Bool.not_false, Nat.zero_add, decide_true, decide_false, if_true, if_false, Bool.false_eq_true, ↓reduceIte]
  refine zeroH_build ?_
  exact hash_ret (b := b) h (l := zeros32) rfl (ol := zeros32) rfl fun w h => k _ h.drop
theorem hash_ret3 (h : sat E w H) {b : Nat} {l ol : List UInt8} {n : Int} (hl : l.length = 32) (hol : ol.length = 32) [Own H b (.cells (ol.map bv).toArray 44 (0, 0)) R]
    (k : ∀ w', sat E w' (pts b (.cells (l.map bv).toArray 44 (0, 0)) * R) → K (.tuple #[.int .i64 n, .agg (l.map bv).toArray]) w') :
    efu prog (Instr.storeAt 44 (.pointer (some ⟨b, 0, none⟩)) (.agg (l.map bv).toArray)) w fun _ w =>
      ∃ r, (do loadVar 44 (← asAddr (.pointer (some ⟨b, 0, none⟩)))).run prog w = .ok r w ∧ K (.tuple #[.int .i64 n, r]) w :=
  hash_ret (K := fun r w => K (.tuple #[.int .i64 n, r]) w) h hl hol k
theorem Anchored_spec {p m : Nat} {s : Ch} {v : Value} (ok : Ok s m) (h : sat E w H) [Has H p (.cells (icells s v).toArray 52 (0, 0))]
    (k : ∀ w', sat E w' H → K (.tuple #[.int .i64 s.an, .agg (s.ah.map bv).toArray]) w') : Calls prog 36 #[.pointer (some ⟨p, 0, none⟩)] w (Ret K) := by
  refine c36 ?_
  unfold B36
  refine alloc_sl h fun b w h => ?_
  have h : sat E w (pts b (.cells (zeros32.map bv).toArray 44 (0, 0)) * H) := h
  try simp only [↓o_nil, ↓o_field, ↓o_add, ↓o_sub, ↓o_mul, ↓o_lss, ↓o_leq, ↓o_gtr, ↓o_geq, ↓o_not, ↓o_pick, ↓o_eqInt, ↓o_neInt, ↓o_eqBool, ↓o_neBool, ↓o_eqPtr, ↓o_nePtr, ↓o_eqPtr', ↓o_eqSl, ↓o_neSl, ↓o_eqStr, ↓o_neStr, ↓o_len, ↓o_lenS, ↓o_min, ↓o_max, ↓o_extract, ↓o_convInt, ↓cd_true, ↓cd_false, ↓gate_tt, ↓gate_ff, ↓gate_tf, ↓gate_ft, ↓gate_undef, ↓o_bind, ↓stay_v, ↓pop_cons, ↓fin_nil, Option.isNone_none, Option.isNone_some, Bool.not_true, Bool.not_false, Nat.zero_add, decide_true, decide_false, if_true, if_false, Bool.false_eq_true, ↓reduceIte]
  refine dr_sl h fun w h _ => ?_
  try simp only [↓o_nil, ↓o_field, ↓o_add, ↓o_sub, ↓o_mul, ↓o_lss, ↓o_leq, ↓o_gtr, ↓o_geq, ↓o_not, ↓o_pick, ↓o_eqInt, ↓o_neInt, ↓o_eqBool, ↓o_neBool, ↓o_eqPtr, ↓o_nePtr, ↓o_eqPtr', ↓o_eqSl, ↓o_neSl, ↓o_eqStr, ↓o_neStr, ↓o_len, ↓o_lenS, ↓o_min, ↓o_max, ↓o_extract, ↓o_convInt, ↓cd_true, ↓cd_false, ↓gate_tt, ↓gate_ff, ↓gate_tf, ↓gate_ft, ↓gate_undef, ↓o_bind, ↓stay_v, ↓pop_cons, ↓fin_nil, Option.isNone_none, Option.isNone_some, Bool.not_true, Bool.not_false, Nat.zero_add, decide_true, decide_false, if_true, if_false, Bool.false_eq_true, ↓reduceIte]
  refine ld_in (b := p) (v := .int .i64 s.an) h (ic_an ok) ?_
  refine ld_part (b := p) h (s.ah.map bv) (by simp [ok.a]) (ic_ah ok) ?_
  exact hash_ret3 (b := b) h ok.a (ol := zeros32) rfl fun w h => k _ h.drop
theorem Anchored_nil (h : sat E w H) (k : ∀ w', sat E w' H → K (.tuple #[.int .i64 0, .agg (zeros32.map bv).toArray]) w') : Calls prog 36 #[.pointer none] w (Ret K) := by
  refine c36 ?_
  unfold B36
  refine alloc_sl h fun b w h => ?_
  have h : sat E w (pts b (.cells (zeros32.map bv).toArray 44 (0, 0)) * H) := h
  try simp only [↓o_nil, ↓o_field, ↓o_add, ↓o_sub, ↓o_mul, ↓o_lss, ↓o_leq, ↓o_gtr, ↓o_geq, ↓o_not, ↓o_pick, ↓o_eqInt, ↓o_neInt, ↓o_eqBool, ↓o_neBool, ↓o_eqPtr, ↓o_nePtr, ↓o_eqPtr', ↓o_eqSl, ↓o_neSl, ↓o_eqStr, ↓o_neStr, ↓o_len, ↓o_lenS, ↓o_min, ↓o_max, ↓o_extract, ↓o_convInt, ↓cd_true, ↓cd_false, ↓gate_tt, ↓gate_ff, ↓gate_tf, ↓gate_ft, ↓gate_undef, ↓o_bind, ↓stay_v, ↓pop_cons, ↓fin_nil, Option.isNone_none, Option.isNone_some, Bool.not_true, Bool.not_false, Nat.zero_add, decide_true, decide_false, if_true, if_false, Bool.false_eq_true, ↓reduceIte]
  refine zeroH_build ?_
  exact hash_ret3 (b := b) h (l := zeros32) rfl (ol := zeros32) rfl fun w h => k _ h.drop
theorem build57 {n : Int} {l : List UInt8} (hl : l.length = 32) (k : K (.agg (.int .i64 n :: l.map bv).toArray) w) : pvv prog (Instr.build 50 #[(0, .int .i64 n), (1, .agg (l.map bv).toArray)]) w K := by
  obtain ⟨f, rfl⟩ : ∃ f : Nat → UInt8, l = (List.range 32).map f := ⟨fun i => l.getD i 0, by
    apply List.ext_getElem
    · simp [hl]
    · intro i h1 h2
      simp [List.getD_eq_getElem?_getD, h1]⟩
  exact pvv_of (fun w => by kernel_rfl) k
def anchorS (s : Ch) : Ch := { s with an := s.bn + s.l.length, ah := s.hd }
theorem ok_anchor {s : Ch} {m : Nat} (ok : Ok s m) : Ok (anchorS s) m := ⟨ok.b, ok.h, ok.h, ok.b0, by have := ok.b0; simp only [anchorS]; omega, by simp only [anchorS]; omega, ok.top, ok.few⟩
theorem Anchor_spec {p m : Nat} {s : Ch} {v : Value} (ok : Ok s m) (hm : m ≤ 1000000000000000) (h : sat E w (chI p s v R))
    (k : ∀ w', sat E w' (chI p (anchorS s) v R) → K (.tuple #[.int .i64 (anchorS s).an, .agg ((anchorS s).ah.map bv).toArray]) w') : Calls prog 18 #[.pointer (some ⟨p, 0, none⟩)] w (Ret K) := by
  obtain ⟨a, c, rfl, hc, hv, _⟩ := (Rds.evs (s := s)).shape h
  refine c18 ?_
  unfold B18
  refine alloc_sl h fun b w h => ?_
  have h : sat E w (pts b (.cells (zeros32.map bv).toArray 44 (0, 0)) * chI p s (.slice a s.l.length c) R) := h
  try simp only [↓o_nil, ↓o_field, ↓o_add, ↓o_sub, ↓o_mul, ↓o_lss, ↓o_leq, ↓o_gtr, ↓o_geq, ↓o_not, ↓o_pick, ↓o_eqInt, ↓o_neInt, ↓o_eqBool, ↓o_neBool, ↓o_eqPtr, ↓o_nePtr, ↓o_eqPtr', ↓o_eqSl, ↓o_neSl, ↓o_eqStr, ↓o_neStr, ↓o_len, ↓o_lenS, ↓o_min, ↓o_max, ↓o_extract, ↓o_convInt, ↓cd_true, ↓cd_false, ↓gate_tt, ↓gate_ff, ↓gate_tf, ↓gate_ft, ↓gate_undef, ↓o_bind, ↓stay_v, ↓pop_cons, ↓fin_nil, Option.isNone_none, Option.isNone_some, Bool.not_true, Bool.not_false, Nat.zero_add, decide_true, decide_false, if_true, if_false, Bool.false_eq_true, ↓reduceIte]
  refine dr_sl h fun w h _ => ?_
  try simp only [↓o_nil, ↓o_field, ↓o_add, ↓o_sub, ↓o_mul, ↓o_lss, ↓o_leq, ↓o_gtr, ↓o_geq, ↓o_not, ↓o_pick, ↓o_eqInt, ↓o_neInt, ↓o_eqBool, ↓o_neBool, ↓o_eqPtr, ↓o_nePtr, ↓o_eqPtr', ↓o_eqSl, ↓o_neSl, ↓o_eqStr, ↓o_neStr, ↓o_len, ↓o_lenS, ↓o_min, ↓o_max, ↓o_extract, ↓o_convInt, ↓cd_true, ↓cd_false, ↓gate_tt, ↓gate_ff, ↓gate_tf, ↓gate_ft, ↓gate_undef, ↓o_bind, ↓stay_v, ↓pop_cons, ↓fin_nil, Option.isNone_none, Option.isNone_some, Bool.not_true, Bool.not_false, Nat.zero_add, decide_true, decide_false, if_true, if_false, Bool.false_eq_true, ↓reduceIte]
  refine ld_part (b := p) h (s.hd.map bv) (by simp [ok.h]) (ic_hd ok) ?_
  refine Count_spec ok hm h fun w h => ?_
  refine st_part (b := p) h (s.hd.map bv) (by simp [ok.h]) (ic_hd ok) ?_
  refine build57 ok.h ?_
  try simp only [↓o_nil, ↓o_field, ↓o_add, ↓o_sub, ↓o_mul, ↓o_lss, ↓o_leq, ↓o_gtr, ↓o_geq, ↓o_not, ↓o_pick, ↓o_eqInt, ↓o_neInt, ↓o_eqBool, ↓o_neBool, ↓o_eqPtr, ↓o_nePtr, ↓o_eqPtr', ↓o_eqSl, ↓o_neSl, ↓o_eqStr, ↓o_neStr, ↓o_len, ↓o_lenS, ↓o_min, ↓o_max, ↓o_extract, ↓o_convInt, ↓cd_true, ↓cd_false, ↓gate_tt, ↓gate_ff, ↓gate_tf, ↓gate_ft, ↓gate_undef, ↓o_bind, ↓stay_v, ↓pop_cons, ↓fin_nil, Option.isNone_none, Option.isNone_some, Bool.not_true, Bool.not_false, Nat.zero_add, decide_true, decide_false, if_true, if_false, Bool.false_eq_true, ↓reduceIte]
  refine store_part (b := p) h (icells (anchorS s) (.slice a s.l.length c)) (by simp [ok.h]) (by
    intro x hx
    rcases List.mem_cons.1 hx with rfl | hx
    · rfl
    · exact bv_one _ x hx) (by rw [ic_length ok]; omega) (ip_anchor ok) fun w h => ?_
  refine Anchored_spec (p := p) (ok_anchor ok) h fun w h => ?_
  rw [o_extract, o_extract]
  refine hash_ret3 (b := b) h (l := (anchorS s).ah) (ok_anchor ok).a (ol := zeros32) rfl fun w h => k _ ?_
  have h := h.drop
  exact h
end Go.Proofs.YtjeiojibnmfibaaGreatDoor
