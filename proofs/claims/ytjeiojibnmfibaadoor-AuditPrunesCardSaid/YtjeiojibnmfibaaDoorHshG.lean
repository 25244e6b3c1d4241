/-
  mix: one round.
-/
import Derived.Test.YtjeiojibnmfibaaDoorHshF
set_option linter.all false
set_option maxRecDepth 10000
namespace Go.Proofs.YtjeiojibnmfibaaDoor
open Go Hold
variable {E : World0} {w : World} {H R : HP} {K : Value → World → Prop}
theorem mix_round (h : sat E w H) {i : Nat} (hi : i < 64) {b3 bk bq : Nat} {e1 e2 e3 : TypeId} {fr1 fr2 : Nat × Nat} {ks ws : List UInt32} (hks : ks.length = 64) (hws : ws.length = 64) {v : St}
    [own : Own H bq (.cells (v.list.map wv).toArray e3 (0, 0)) R] [hb3 : Has R b3 (.cells (ws.map wv).toArray e1 fr1)] [hbk : Has R bk (.cells (ks.map wv).toArray e2 fr2)] {k : List Value → World → Prop}
    (hk : ∀ w, sat E w (pts bq (.cells ((round (ks.getD i 0) (ws.getD i 0) v).list.map wv).toArray e3 (0, 0)) * R) → k [.int .i64 ((i + 1 : Nat) : Int)] w) :
        dr w fun w =>
        pvv prog (Instr.indexAt 107 (.pointer (some ⟨bq, 0, none⟩)) (.int .i64 4)) w fun t_99 w =>
        pvv prog (Instr.indexAt 107 (.pointer (some ⟨bq, 0, none⟩)) (.int .i64 4)) w fun t_100 w =>
        pvv prog (Instr.indexAt 107 (.pointer (some ⟨bq, 0, none⟩)) (.int .i64 4)) w fun t_101 w =>
        bindS (vN (Instr.loadAt 101 t_99)) fun m_103 => ldv prog (Instr.loadAt 101 t_99) w fun t_102 w =>
        bindS (vN (Instr.loadAt 101 t_100)) fun m_105 => ldv prog (Instr.loadAt 101 t_100) w fun t_104 w =>
        bindS (vN (Instr.loadAt 101 t_101)) fun m_107 => ldv prog (Instr.loadAt 101 t_101) w fun t_106 w =>
        Calls prog 83 #[t_102, (.int .i64 (-6))] w (Ret fun t_108 w => stay prog none m_107 t_106 w <| stay prog none m_105 t_104 w <| 
        Calls prog 83 #[t_104, (.int .i64 (-11))] w (Ret fun t_109 w => stay prog none m_107 t_106 w <| stay prog none m_103 t_102 w <| 
        pvv prog (binOp .xor 101 t_108 t_109) w fun t_110 w =>
        Calls prog 83 #[t_106, (.int .i64 (-25))] w (Ret fun t_111 w => stay prog none m_105 t_104 w <| stay prog none m_103 t_102 w <| 
        pvv prog (binOp .xor 101 t_110 t_111) w fun t_112 w =>
        dr w fun w =>
        pvv prog (Instr.indexAt 107 (.pointer (some ⟨bq, 0, none⟩)) (.int .i64 7)) w fun t_113 w =>
        pvv prog (Instr.indexAt 107 (.pointer (some ⟨bq, 0, none⟩)) (.int .i64 6)) w fun t_114 w =>
        pvv prog (Instr.indexAt 107 (.pointer (some ⟨bq, 0, none⟩)) (.int .i64 4)) w fun t_115 w =>
        pvv prog (Instr.indexAt 107 (.pointer (some ⟨bq, 0, none⟩)) (.int .i64 5)) w fun t_116 w =>
        pvv prog (Instr.indexAt 107 (.pointer (some ⟨bq, 0, none⟩)) (.int .i64 6)) w fun t_117 w =>
        pv prog (oNil (.pointer (some ⟨bk, 0, none⟩))) w fun t_118 w =>
        pvv prog (Instr.indexAt 121 t_118 (.int .i64 i)) w fun t_119 w =>
        pvv prog (Instr.indexAt 121 (.pointer (some ⟨b3, 0, none⟩)) (.int .i64 i)) w fun t_120 w =>
        bindS (vN (Instr.loadAt 101 t_113)) fun m_122 => ldv prog (Instr.loadAt 101 t_113) w fun t_121 w =>
        pvv prog (binOp .add 101 t_121 t_112) w fun t_123 w =>
        bindS (vN (Instr.loadAt 101 t_114)) fun m_125 => ldv prog (Instr.loadAt 101 t_114) w fun t_124 w =>
        bindS (vN (Instr.loadAt 101 t_115)) fun m_127 => ldv prog (Instr.loadAt 101 t_115) w fun t_126 w =>
        bindS (vN (Instr.loadAt 101 t_116)) fun m_129 => ldv prog (Instr.loadAt 101 t_116) w fun t_128 w =>
        bindS (vN (Instr.loadAt 101 t_117)) fun m_131 => ldv prog (Instr.loadAt 101 t_117) w fun t_130 w =>
        pvv prog (binOp .xor 101 t_128 t_130) w fun t_132 w =>
        pvv prog (binOp .and 101 t_126 t_132) w fun t_133 w =>
        pvv prog (binOp .xor 101 t_124 t_133) w fun t_134 w =>
        pvv prog (binOp .add 101 t_123 t_134) w fun t_135 w =>
        bindS (vN (Instr.loadAt 101 t_119)) fun m_137 => ldv prog (Instr.loadAt 101 t_119) w fun t_136 w =>
        pvv prog (binOp .add 101 t_135 t_136) w fun t_138 w =>
        bindS (vN (Instr.loadAt 101 t_120)) fun m_140 => ldv prog (Instr.loadAt 101 t_120) w fun t_139 w =>
        pvv prog (binOp .add 101 t_138 t_139) w fun t_141 w =>
        dr w fun w =>
        pvv prog (Instr.indexAt 107 (.pointer (some ⟨bq, 0, none⟩)) (.int .i64 0)) w fun t_142 w =>
        pvv prog (Instr.indexAt 107 (.pointer (some ⟨bq, 0, none⟩)) (.int .i64 0)) w fun t_143 w =>
        pvv prog (Instr.indexAt 107 (.pointer (some ⟨bq, 0, none⟩)) (.int .i64 0)) w fun t_144 w =>
        bindS (vN (Instr.loadAt 101 t_142)) fun m_146 => ldv prog (Instr.loadAt 101 t_142) w fun t_145 w =>
        bindS (vN (Instr.loadAt 101 t_143)) fun m_148 => ldv prog (Instr.loadAt 101 t_143) w fun t_147 w =>
        bindS (vN (Instr.loadAt 101 t_144)) fun m_150 => ldv prog (Instr.loadAt 101 t_144) w fun t_149 w =>
        Calls prog 83 #[t_145, (.int .i64 (-2))] w (Ret fun t_151 w => stay prog none m_150 t_149 w <| stay prog none m_148 t_147 w <| 
        Calls prog 83 #[t_147, (.int .i64 (-13))] w (Ret fun t_152 w => stay prog none m_150 t_149 w <| stay prog none m_146 t_145 w <| 
        pvv prog (binOp .xor 101 t_151 t_152) w fun t_153 w =>
        Calls prog 83 #[t_149, (.int .i64 (-22))] w (Ret fun t_154 w => stay prog none m_148 t_147 w <| stay prog none m_146 t_145 w <| 
        pvv prog (binOp .xor 101 t_153 t_154) w fun t_155 w =>
        pvv prog (Instr.indexAt 107 (.pointer (some ⟨bq, 0, none⟩)) (.int .i64 0)) w fun t_156 w =>
        ldv prog (Instr.loadAt 101 t_156) w fun t_157 w =>
        pvv prog (Instr.indexAt 107 (.pointer (some ⟨bq, 0, none⟩)) (.int .i64 1)) w fun t_158 w =>
        ldv prog (Instr.loadAt 101 t_158) w fun t_159 w =>
        pvv prog (binOp .and 101 t_157 t_159) w fun t_160 w =>
        pvv prog (Instr.indexAt 107 (.pointer (some ⟨bq, 0, none⟩)) (.int .i64 2)) w fun t_161 w =>
        ldv prog (Instr.loadAt 101 t_161) w fun t_162 w =>
        pvv prog (Instr.indexAt 107 (.pointer (some ⟨bq, 0, none⟩)) (.int .i64 0)) w fun t_163 w =>
        ldv prog (Instr.loadAt 101 t_163) w fun t_164 w =>
        pvv prog (Instr.indexAt 107 (.pointer (some ⟨bq, 0, none⟩)) (.int .i64 1)) w fun t_165 w =>
        ldv prog (Instr.loadAt 101 t_165) w fun t_166 w =>
        pvv prog (binOp .or 101 t_164 t_166) w fun t_167 w =>
        pvv prog (binOp .and 101 t_162 t_167) w fun t_168 w =>
        pvv prog (binOp .or 101 t_160 t_168) w fun t_169 w =>
        pvv prog (binOp .add 101 t_155 t_169) w fun t_170 w =>
        dr w fun w =>
        pvv prog (Instr.sliceAt 107 (.pointer (some ⟨bq, 0, none⟩)) (some (.int .i64 1)) none none) w fun t_171 w =>
        pvv prog (Instr.sliceAt 107 (.pointer (some ⟨bq, 0, none⟩)) none (some (.int .i64 7)) none) w fun t_172 w =>
        ef prog (oBi .copy #[102, 102] 3 #[false, false] #[t_171, t_172]) w fun t_173 w =>
        pvv prog (Instr.indexAt 107 (.pointer (some ⟨bq, 0, none⟩)) (.int .i64 4)) w fun t_174 w =>
        ldv prog (Instr.loadAt 101 t_174) w fun t_175 w =>
        pvv prog (binOp .add 101 t_175 t_141) w fun t_176 w =>
        pvv prog (Instr.indexAt 107 (.pointer (some ⟨bq, 0, none⟩)) (.int .i64 4)) w fun t_177 w =>
        efu prog (Instr.storeAt 101 t_177 t_176) w fun u_178 w =>
        pvv prog (binOp .add 101 t_141 t_170) w fun t_179 w =>
        pvv prog (Instr.indexAt 107 (.pointer (some ⟨bq, 0, none⟩)) (.int .i64 0)) w fun t_180 w =>
        efu prog (Instr.storeAt 101 t_180 t_179) w fun u_181 w =>
        pvv prog (binOp .add 3 (.int .i64 i) (.int .i64 1)) w fun t_182 w =>
        k [t_182] w)))))) := by
  have ix : ∀ {j : Nat}, j < 64 → ∀ {b : Nat} {w : World} {K : Value → World → Prop}, pvv prog (Instr.indexAt 121 (.pointer (some ⟨b, 0, none⟩)) (.int .i64 (j : Int))) w K = K (.pointer (some ⟨b, j, none⟩)) w := fun {j} hj {b w K} => by
    rw [o_indexA (by omega) (by omega)]; simp
  have i0 : ∀ {w : World} {K : Value → World → Prop}, pvv prog (Instr.indexAt 107 (.pointer (some ⟨bq, 0, none⟩)) (.int .i64 0)) w K = K (.pointer (some ⟨bq, 0, none⟩)) w := o_indexA (by decide) (by decide)
  have i1 : ∀ {w : World} {K : Value → World → Prop}, pvv prog (Instr.indexAt 107 (.pointer (some ⟨bq, 0, none⟩)) (.int .i64 1)) w K = K (.pointer (some ⟨bq, 1, none⟩)) w := o_indexA (by decide) (by decide)
  have i2 : ∀ {w : World} {K : Value → World → Prop}, pvv prog (Instr.indexAt 107 (.pointer (some ⟨bq, 0, none⟩)) (.int .i64 2)) w K = K (.pointer (some ⟨bq, 2, none⟩)) w := o_indexA (by decide) (by decide)
  have i4 : ∀ {w : World} {K : Value → World → Prop}, pvv prog (Instr.indexAt 107 (.pointer (some ⟨bq, 0, none⟩)) (.int .i64 4)) w K = K (.pointer (some ⟨bq, 4, none⟩)) w := o_indexA (by decide) (by decide)
  have i5 : ∀ {w : World} {K : Value → World → Prop}, pvv prog (Instr.indexAt 107 (.pointer (some ⟨bq, 0, none⟩)) (.int .i64 5)) w K = K (.pointer (some ⟨bq, 5, none⟩)) w := o_indexA (by decide) (by decide)
  have i6 : ∀ {w : World} {K : Value → World → Prop}, pvv prog (Instr.indexAt 107 (.pointer (some ⟨bq, 0, none⟩)) (.int .i64 6)) w K = K (.pointer (some ⟨bq, 6, none⟩)) w := o_indexA (by decide) (by decide)
  have i7 : ∀ {w : World} {K : Value → World → Prop}, pvv prog (Instr.indexAt 107 (.pointer (some ⟨bq, 0, none⟩)) (.int .i64 7)) w K = K (.pointer (some ⟨bq, 7, none⟩)) w := o_indexA (by decide) (by decide)
  have h : sat E w (pts bq (.cells [wv v.a, wv v.b, wv v.c, wv v.d, wv v.e, wv v.f, wv v.g, wv v.h].toArray e3 (0, 0)) * R) := h.own bq
  refine dr_sl h fun w h _ => ?_
  simp only [↓o_nil, ↓o_field, ↓o_add, ↓o_sub, ↓o_mul, ↓o_lss, ↓o_leq, ↓o_gtr, ↓o_geq, ↓o_not, ↓o_pick, ↓o_eqInt, ↓o_neInt, ↓o_eqBool, ↓o_neBool, ↓o_eqPtr, ↓o_nePtr, ↓o_eqPtr', ↓o_eqSl, ↓o_neSl, ↓o_eqStr, ↓o_neStr, ↓o_len, ↓o_lenS, ↓o_min, ↓o_max, ↓o_extract, ↓o_convInt, ↓cd_true, ↓cd_false, ↓gate_tt, ↓gate_ff, ↓gate_tf, ↓gate_ft, ↓gate_undef, ↓o_bind, ↓stay_v, ↓pop_cons, ↓fin_nil, Option.isNone_none, Option.isNone_some, Bool.not_true, Bool.not_false, Nat.zero_add, decide_true, decide_false, if_true, if_false, Bool.false_eq_true, ↓reduceIte, i4]
  refine ld_at h (ld_at h (ld_at h ?_))
  refine Rot_spec _ (n := 6) (by decide) (by decide) ?_
  try simp only [stay_v]
  refine st_at h (st_at h ?_)
  refine Rot_spec _ (n := 11) (by decide) (by decide) ?_
  try simp only [stay_v]
  refine st_at h (st_at h ?_)
  rw [o_xorW]
  refine Rot_spec _ (n := 25) (by decide) (by decide) ?_
  try simp only [stay_v]
  refine st_at h (st_at h ?_)
  rw [o_xorW]
  refine dr_sl h fun w h _ => ?_
  simp only [↓o_nil, ↓o_field, ↓o_add, ↓o_sub, ↓o_mul, ↓o_lss, ↓o_leq, ↓o_gtr, ↓o_geq, ↓o_not, ↓o_pick, ↓o_eqInt, ↓o_neInt, ↓o_eqBool, ↓o_neBool, ↓o_eqPtr, ↓o_nePtr, ↓o_eqPtr', ↓o_eqSl, ↓o_neSl, ↓o_eqStr, ↓o_neStr, ↓o_len, ↓o_lenS, ↓o_min, ↓o_max, ↓o_extract, ↓o_convInt, ↓cd_true, ↓cd_false, ↓gate_tt, ↓gate_ff, ↓gate_tf, ↓gate_ft, ↓gate_undef, ↓o_bind, ↓stay_v, ↓pop_cons, ↓fin_nil, Option.isNone_none, Option.isNone_some, Bool.not_true, Bool.not_false, Nat.zero_add, decide_true, decide_false, if_true, if_false, Bool.false_eq_true, ↓reduceIte, i0, i1, i2, i4, i5, i6, i7, ix hi]
  refine ld_at h ?_
  rw [o_addW]
  refine ld_at h (ld_at h (ld_at h (ld_at h ?_)))
  rw [o_xorW, o_andW, o_xorW, o_addW]
  refine ld_in (b := bk) h (getwv' (by omega)) ?_
  rw [o_addW]
  refine ld_in (b := b3) h (getwv' (by omega)) ?_
  rw [o_addW]
  refine dr_sl h fun w h _ => ?_
  try simp only [↓o_nil, ↓o_field, ↓o_add, ↓o_sub, ↓o_mul, ↓o_lss, ↓o_leq, ↓o_gtr, ↓o_geq, ↓o_not, ↓o_pick, ↓o_eqInt, ↓o_neInt, ↓o_eqBool, ↓o_neBool, ↓o_eqPtr, ↓o_nePtr, ↓o_eqPtr', ↓o_eqSl, ↓o_neSl, ↓o_eqStr, ↓o_neStr, ↓o_len, ↓o_lenS, ↓o_min, ↓o_max, ↓o_extract, ↓o_convInt, ↓cd_true, ↓cd_false, ↓gate_tt, ↓gate_ff, ↓gate_tf, ↓gate_ft, ↓gate_undef, ↓o_bind, ↓stay_v, ↓pop_cons, ↓fin_nil, Option.isNone_none, Option.isNone_some, Bool.not_true, Bool.not_false, Nat.zero_add, decide_true, decide_false, if_true, if_false, Bool.false_eq_true, ↓reduceIte, i0, i1, i2, i4, i5, i6, i7]
  refine ld_at h (ld_at h (ld_at h ?_))
  refine Rot_spec _ (n := 2) (by decide) (by decide) ?_
  try simp only [stay_v]
  refine st_at h (st_at h ?_)
  refine Rot_spec _ (n := 13) (by decide) (by decide) ?_
  try simp only [stay_v]
  refine st_at h (st_at h ?_)
  rw [o_xorW]
  refine Rot_spec _ (n := 22) (by decide) (by decide) ?_
  try simp only [stay_v]
  refine st_at h (st_at h ?_)
  rw [o_xorW]
  try simp only [↓o_nil, ↓o_field, ↓o_add, ↓o_sub, ↓o_mul, ↓o_lss, ↓o_leq, ↓o_gtr, ↓o_geq, ↓o_not, ↓o_pick, ↓o_eqInt, ↓o_neInt, ↓o_eqBool, ↓o_neBool, ↓o_eqPtr, ↓o_nePtr, ↓o_eqPtr', ↓o_eqSl, ↓o_neSl, ↓o_eqStr, ↓o_neStr, ↓o_len, ↓o_lenS, ↓o_min, ↓o_max, ↓o_extract, ↓o_convInt, ↓cd_true, ↓cd_false, ↓gate_tt, ↓gate_ff, ↓gate_tf, ↓gate_ft, ↓gate_undef, ↓o_bind, ↓stay_v, ↓pop_cons, ↓fin_nil, Option.isNone_none, Option.isNone_some, Bool.not_true, Bool.not_false, Nat.zero_add, decide_true, decide_false, if_true, if_false, Bool.false_eq_true, ↓reduceIte, i0, i1, i2, i4, i5, i6, i7]
  refine ld_at h ?_
  refine ld_at h ?_
  rw [o_andW]
  refine ld_at h (ld_at h (ld_at h ?_))
  rw [o_orW, o_andW, o_orW, o_addW]
  refine dr_sl h fun w h _ => ?_
  rw [o_sliceA_l (by decide) (by decide), o_sliceA_h (by decide) (by decide)]
  refine copy_in (b := bq) (k' := 7) h (news := [wv v.a, wv v.b, wv v.c, wv v.d, wv v.e, wv v.f, wv v.g]) rfl (.inr ⟨bq, 0, _, _, _, rfl, Has.get h, fun j u hj => ?_⟩) (by simp [wv, Value.oneCell']) (by simp) fun w h => ?_
  · have := (List.getElem?_eq_some_iff.1 hj).1
    have hj7 : j < 7 := this
    rw [Nat.zero_add]
    match j, hj7 with
    | 0, _ => exact hj
    | 1, _ => exact hj
    | 2, _ => exact hj
    | 3, _ => exact hj
    | 4, _ => exact hj
    | 5, _ => exact hj
    | 6, _ => exact hj
  have h : sat E w (pts bq (.cells [wv v.a, wv v.a, wv v.b, wv v.c, wv v.d, wv v.e, wv v.f, wv v.g].toArray e3 (0, 0)) * R) := h
  try simp only [↓o_nil, ↓o_field, ↓o_add, ↓o_sub, ↓o_mul, ↓o_lss, ↓o_leq, ↓o_gtr, ↓o_geq, ↓o_not, ↓o_pick, ↓o_eqInt, ↓o_neInt, ↓o_eqBool, ↓o_neBool, ↓o_eqPtr, ↓o_nePtr, ↓o_eqPtr', ↓o_eqSl, ↓o_neSl, ↓o_eqStr, ↓o_neStr, ↓o_len, ↓o_lenS, ↓o_min, ↓o_max, ↓o_extract, ↓o_convInt, ↓cd_true, ↓cd_false, ↓gate_tt, ↓gate_ff, ↓gate_tf, ↓gate_ft, ↓gate_undef, ↓o_bind, ↓stay_v, ↓pop_cons, ↓fin_nil, Option.isNone_none, Option.isNone_some, Bool.not_true, Bool.not_false, Nat.zero_add, decide_true, decide_false, if_true, if_false, Bool.false_eq_true, ↓reduceIte, i0, i1, i2, i4, i5, i6, i7]
  refine ld_at h ?_
  rw [o_addW]
  try rw [i4]
  refine store_at h rfl (by simp) fun w h => ?_
  rw [o_addW]
  try rw [i0]
  refine store_at h rfl (by simp) fun w h => ?_
  try rw [o_add]
  rw [i64_of (by omega) (by omega)]
  exact hk _ h
end Go.Proofs.YtjeiojibnmfibaaDoor
