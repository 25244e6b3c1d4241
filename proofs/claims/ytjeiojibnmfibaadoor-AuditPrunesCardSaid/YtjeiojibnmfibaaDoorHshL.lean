/-
  The reference's SHA-256: words and rounds.
-/
import Derived.Test.YtjeiojibnmfibaaDoorHshK
set_option linter.all false
set_option maxRecDepth 10000
namespace Go.Proofs.YtjeiojibnmfibaaDoor
open Go Hold
variable {E : World0} {w : World} {H R : HP} {K : Value → World → Prop}
theorem turn_spec (h : sat E w H) (x : UInt32) {n : Nat} (h1 : 1 ≤ n) (h2 : n ≤ 31) (k : ∀ w', sat E w' H → K (wv (rotr x n)) w') : Calls prog 66 #[wv x, .int .i64 (n : Int)] w (Ret K) := by
  refine c66 ?_
  unfold B66
  refine dr_sl h fun w h _ => ?_
  rw [o_shrW (by omega), o_sub]
  have e : IntKind.i64.wrap (32 - (n : Int)) = ((32 - n : Nat) : Int) := by rw [i64_of (by omega) (by omega)]; omega
  rw [e, o_shlW (by omega), o_orW, UInt32.or_comm]
  exact k _ h
theorem o_notW {P : Program} {a : UInt32} {K : Value → World → Prop} : pvv P (Op.unary .xor (wv a)) w K = K (wv (~~~a)) w := pvv_eq fun _ => by
  have e : (~~~a) = 4294967295 ^^^ a := by
    apply UInt32.toBitVec_inj.1
    apply BitVec.eq_of_getLsbD_eq
    intro i hi
    rw [UInt32.toBitVec_not, UInt32.toBitVec_xor, BitVec.getLsbD_not, BitVec.getLsbD_xor]
    have : ∀ i : Fin 32, (UInt32.toBitVec 4294967295).getLsbD i.val = true := by decide
    rw [this ⟨i, hi⟩]
    simp [hi]
  rw [e]
  have := @o_xorW P (w := w) (K := fun v _ => v = wv (4294967295 ^^^ a)) (t := 0) (a := 4294967295) (b := a)
  simp only [Op.unary, wv, Op.intBits, IntKind.bits, ofInt32]
  simp only [IntKind.signed, IntKind.max, if_false, Bool.false_eq_true]
  simp
  have hx := wrapW (4294967295 ^^^ a)
  have e2 : (BitVec.ofInt 32 (2 ^ IntKind.u32.bits - 1)) = (4294967295 : UInt32).toBitVec := by decide
  rw [e2]
  exact hx.trans (by simp)
theorem ch_eq (e f g : UInt32) : (e &&& f) ^^^ (~~~e &&& g) = g ^^^ (e &&& (f ^^^ g)) := by
  apply UInt32.toBitVec_inj.1
  apply BitVec.eq_of_getLsbD_eq
  intro i hi
  simp only [UInt32.toBitVec_and, UInt32.toBitVec_xor, UInt32.toBitVec_not, BitVec.getLsbD_and, BitVec.getLsbD_xor, BitVec.getLsbD_not, hi, decide_true, Bool.true_and]
  cases e.toBitVec.getLsbD i <;> cases f.toBitVec.getLsbD i <;> cases g.toBitVec.getLsbD i <;> rfl
theorem maj_eq (a b c : UInt32) : ((a &&& b) ^^^ (a &&& c)) ^^^ (b &&& c) = (a &&& b) ||| (c &&& (a ||| b)) := by
  apply UInt32.toBitVec_inj.1
  apply BitVec.eq_of_getLsbD_eq
  intro i hi
  simp only [UInt32.toBitVec_and, UInt32.toBitVec_xor, UInt32.toBitVec_or, BitVec.getLsbD_and, BitVec.getLsbD_xor, BitVec.getLsbD_or]
  cases a.toBitVec.getLsbD i <;> cases b.toBitVec.getLsbD i <;> cases c.toBitVec.getLsbD i <;> rfl
def acc (b : List UInt8) (i : Nat) : Nat → UInt32
  | 0 => 0
  | j + 1 => (acc b i j <<< UInt32.ofNat 8) ||| (b.getD (4 * i + j) 0).toUInt32
theorem acc_word (b : List UInt8) (i : Nat) : acc b i 4 = word b i := by
  simp only [acc, word, Nat.add_zero]
  generalize (b.getD (4 * i) 0).toUInt32 = x0
  generalize (b.getD (4 * i + 1) 0).toUInt32 = x1
  generalize (b.getD (4 * i + 2) 0).toUInt32 = x2
  generalize (b.getD (4 * i + 3) 0).toUInt32 = x3
  apply UInt32.toBitVec_inj.1
  simp only [UInt32.toBitVec_or, UInt32.toBitVec_shiftLeft]
  have e8 : ((UInt32.ofNat 8).toBitVec % 32 : BitVec 32).toNat = 8 := by decide
  have e16 : ((UInt32.ofNat 16).toBitVec % 32 : BitVec 32).toNat = 16 := by decide
  have e24 : ((UInt32.ofNat 24).toBitVec % 32 : BitVec 32).toNat = 24 := by decide
  simp only [BitVec.shiftLeft_eq', e8, e16, e24]
  apply BitVec.eq_of_getLsbD_eq
  intro i hi
  simp only [BitVec.getLsbD_or, BitVec.getLsbD_shiftLeft]
  have z : (UInt32.toBitVec 0).getLsbD (i - 8 - 8 - 8 - 8) = false := by simp
  by_cases h1 : i < 8
  · simp [h1, hi, show i < 16 by omega, show i < 24 by omega]
  · by_cases h2 : i < 16
    · simp [h1, hi, h2, show i < 24 by omega, show i - 8 < 8 by omega, show i - 8 < 32 by omega]
    · by_cases h3 : i < 24
      · simp [h1, h2, h3, hi, show ¬ (i - 8 < 8) by omega, show i - 8 < 32 by omega, show i - 8 - 8 < 8 by omega, show i - 8 - 8 < 32 by omega, show i - 8 - 8 = i - 16 by omega, show i - 16 < 8 by omega]
      · simp [h1, h2, h3, hi, show ¬ (i - 8 < 8) by omega, show i - 8 < 32 by omega, show ¬ (i - 8 - 8 < 8) by omega, show i - 8 - 8 < 32 by omega, show i - 8 - 8 - 8 < 32 by omega, show i - 8 - 8 - 8 < 8 by omega, show i - 8 - 8 = i - 16 by omega, show i - 16 - 8 = i - 24 by omega, show ¬ (i - 16 < 8) by omega, show i - 16 < 32 by omega]
theorem set_mine {α : Type} {us : List α} {z : α} {n i : Nat} (hi : us.length = i) (h : i < n) : (us ++ List.replicate (n - i) z).set i z = us ++ List.replicate (n - i) z := by
  rw [set_fill hi h, show n - i = (n - (i + 1)) + 1 by omega, List.replicate_succ]
  simp
theorem getD_drop' {l : List UInt8} {a i : Nat} : (l.drop a).getD i 0 = l.getD (a + i) 0 := by
  simp [List.getD_eq_getElem?_getD]
theorem r_word {q i b3 bm om cm : Nat} {e3 : TypeId} {us : List UInt32} {m : List UInt8} (hi : i < 16) (hus : us.length = i) (hq : 64 * q + 64 ≤ m.length) (hml : m.length ≤ 140737488355328)
    (h : sat E w (pts b3 (.cells (us.map wv ++ List.replicate (64 - i) (wv 0)).toArray e3 (0, 0)) * R)) (hm : Rds R (.slice (some ⟨bm, om, none⟩) m.length cm) m.length (m.map bv)) {k : List Value → World → Prop}
    (hk : ∀ w, sat E w (pts b3 (.cells ((us ++ [word (m.drop (64 * q)) i]).map wv ++ List.replicate (64 - (i + 1)) (wv 0)).toArray e3 (0, 0)) * R) → k [.int .i64 ((i + 1 : Nat) : Int)] w) :
              lp (fun σ w again_36 => pop σ fun j_35 σ => fin σ <|
                pvv prog (binOp .lss 3 j_35 (.int .i64 4)) w fun t_37 w =>
                cd t_37 (
                  dr w fun w =>
                  pvv prog (Instr.indexAt 102 (.slice (some ⟨b3, 0, none⟩) 64 64) (.int .i64 i)) w fun t_38 w =>
                  pvv prog (binOp .mul 3 (.int .i64 4) (.int .i64 i)) w fun t_39 w =>
                  pvv prog (binOp .add 3 (.int .i64 ((64 * q : Nat) : Int)) t_39) w fun t_40 w =>
                  pvv prog (binOp .add 3 t_40 j_35) w fun t_41 w =>
                  pvv prog (Instr.indexAt 72 (.slice (some ⟨bm, om, none⟩) m.length cm) t_41) w fun t_42 w =>
                  bindS (vN (Instr.loadAt 101 t_38)) fun m_44 => ldv prog (Instr.loadAt 101 t_38) w fun t_43 w =>
                  pvv prog (binOp .shl 101 t_43 (.int .u64 8)) w fun t_45 w =>
                  bindS (vN (Instr.loadAt 5 t_42)) fun m_47 => ldv prog (Instr.loadAt 5 t_42) w fun t_46 w =>
                  pvv prog (convert 5 101 t_46) w fun t_48 w =>
                  pvv prog (binOp .or 101 t_45 t_48) w fun t_49 w =>
                  pvv prog (Instr.indexAt 102 (.slice (some ⟨b3, 0, none⟩) 64 64) (.int .i64 i)) w fun t_50 w =>
                  efu prog (Instr.storeAt 101 t_50 t_49) w fun u_51 w =>
                  pvv prog (binOp .add 3 j_35 (.int .i64 1)) w fun t_52 w =>
                  again_36 [t_52] w) <|
                pvv prog (binOp .add 3 (.int .i64 i) (.int .i64 1)) w fun t_54 w =>
                k [t_54] w) [(.int .i64 0)] w := by
  refine lp_nat (fun c σ w => ∃ j : Nat, σ = [.int .i64 j] ∧ c = 4 - j ∧ j ≤ 4 ∧
    sat E w (pts b3 (.cells ((us.map wv ++ List.replicate (64 - i) (wv 0)).set i (wv (acc (m.drop (64 * q)) i j))).toArray e3 (0, 0)) * R)) 4 ⟨0, rfl, rfl, by omega, by
      show sat E w (pts b3 (.cells ((us.map wv ++ List.replicate (64 - i) (wv 0)).set i (wv 0)).toArray e3 (0, 0)) * R)
      rw [set_mine (by simpa using hus) (by omega)]; exact h⟩ ?_
  rintro c σ w again ⟨j, rfl, rfl, hj, h⟩ hag
  have hlen : i < (us.map wv ++ List.replicate (64 - i) (wv 0)).length := by simp; omega
  rw [pop_cons, fin_nil, o_lss]
  refine cd_dec (fun hlt => ?_) (fun hge => ?_)
  · have hlt : j < 4 := by omega
    have ix : ∀ {w : World} {K : Value → World → Prop}, pvv prog (Instr.indexAt 102 (.slice (some ⟨b3, 0, none⟩) 64 64) (.int .i64 (i : Int))) w K = K (.pointer (some ⟨b3, i, none⟩)) w := fun {w K} => by
      rw [o_index (by omega) (by omega)]; simp
    have e0 : IntKind.i64.wrap (4 * (i : Int)) = ((4 * i : Nat) : Int) := by rw [i64_of (by omega) (by omega)]; omega
    have e1 : IntKind.i64.wrap (((64 * q : Nat) : Int) + ((4 * i : Nat) : Int)) = ((64 * q + 4 * i : Nat) : Int) := by rw [i64_of (by omega) (by omega)]; omega
    have e2 : IntKind.i64.wrap (((64 * q + 4 * i : Nat) : Int) + (j : Int)) = ((64 * q + 4 * i + j : Nat) : Int) := by rw [i64_of (by omega) (by omega)]; omega
    have im : ∀ {w : World} {K : Value → World → Prop}, pvv prog (Instr.indexAt 72 (.slice (some ⟨bm, om, none⟩) m.length cm) (.int .i64 ((64 * q + 4 * i + j : Nat) : Int))) w K = K (.pointer (some ⟨bm, om + (64 * q + 4 * i + j), none⟩)) w := fun {w K} => by
      rw [o_index (by omega) (by omega)]; simp only [Int.toNat_natCast, Nat.mul_one]
    refine dr_sl h fun w h _ => ?_
    simp only [ix, e0, e1, e2, im, ↓o_nil, ↓o_field, ↓o_add, ↓o_sub, ↓o_mul, ↓o_lss, ↓o_leq, ↓o_gtr, ↓o_geq, ↓o_not, ↓o_pick, ↓o_eqInt, ↓o_neInt, ↓o_eqBool, ↓o_neBool, ↓o_eqPtr, ↓o_nePtr, ↓o_eqPtr', ↓o_eqSl, ↓o_neSl, ↓o_eqStr, ↓o_neStr, ↓o_len, ↓o_lenS, ↓o_min, ↓o_max, ↓o_extract, ↓o_convInt, ↓cd_true, ↓cd_false, ↓gate_tt, ↓gate_ff, ↓gate_tf, ↓gate_ft, ↓gate_undef, ↓o_bind, ↓stay_v, ↓pop_cons, ↓fin_nil, Option.isNone_none, Option.isNone_some, Bool.not_true, Bool.not_false, Nat.zero_add, decide_true, decide_false, if_true, if_false, Bool.false_eq_true, ↓reduceIte]
    refine ld_in (b := b3) (v := wv (acc (m.drop (64 * q)) i j)) h (by rw [List.getElem?_set_self hlen]) ?_
    rw [o_shlW' (by decide) (by decide)]
    refine ld_rd h (hm.right) _ rfl (getbv (by omega)) ?_
    rw [o_convBW, o_orW]
    try rw [ix]
    refine store_sl (b := b3) h rfl (by rw [List.length_set]; exact hlen) fun w h => ?_
    try rw [o_add]
    rw [i64_of (by omega) (by omega)]
    refine hag (4 - (j + 1)) _ _ (by omega) ⟨j + 1, rfl, rfl, by omega, ?_⟩
    rw [List.set_set] at h
    have e : acc (m.drop (64 * q)) i (j + 1) = (acc (m.drop (64 * q)) i j <<< UInt32.ofNat 8) ||| (m.getD (64 * q + 4 * i + j) 0).toUInt32 := by
      simp only [acc]
      rw [getD_drop', ← Nat.add_assoc]
    rw [e]
    exact h
  · have hj4 : j = 4 := by omega
    subst hj4
    rw [o_add, i64_of (by omega) (by omega)]
    refine hk _ ?_
    rw [acc_word, set_fill (by simpa using hus) (by omega)] at h
    have e : us.map wv ++ [wv (word (m.drop (64 * q)) i)] = (us ++ [word (m.drop (64 * q)) i]).map wv := by simp
    rw [← e]
    exact h
theorem r_late (h : sat E w H) {i : Nat} (hi : i < 64) (h16 : 16 ≤ i) {b3 : Nat} {e : TypeId} {us : List UInt32} (hus : us.length = i)
    [own : Own H b3 (.cells (us.map wv ++ List.replicate (64 - i) (wv 0)).toArray e (0, 0)) R] {k : List Value → World → Prop}
    (hk : ∀ w, sat E w (pts b3 (.cells ((us ++ [wNext us i]).map wv ++ List.replicate (64 - (i + 1)) (wv 0)).toArray e (0, 0)) * R) → k [.int .i64 ((i + 1 : Nat) : Int)] w) :
                dr w fun w =>
                pvv prog (binOp .sub 3 (.int .i64 i) (.int .i64 15)) w fun t_58 w =>
                pvv prog (Instr.indexAt 102 (.slice (some ⟨b3, 0, none⟩) 64 64) t_58) w fun t_59 w =>
                pvv prog (binOp .sub 3 (.int .i64 i) (.int .i64 2)) w fun t_60 w =>
                pvv prog (Instr.indexAt 102 (.slice (some ⟨b3, 0, none⟩) 64 64) t_60) w fun t_61 w =>
                bindS (vN (Instr.loadAt 101 t_59)) fun m_63 => ldv prog (Instr.loadAt 101 t_59) w fun t_62 w =>
                bindS (vN (Instr.loadAt 101 t_61)) fun m_65 => ldv prog (Instr.loadAt 101 t_61) w fun t_64 w =>
                dr w fun w =>
                pvv prog (binOp .sub 3 (.int .i64 i) (.int .i64 16)) w fun t_66 w =>
                pvv prog (Instr.indexAt 102 (.slice (some ⟨b3, 0, none⟩) 64 64) t_66) w fun t_67 w =>
                pvv prog (binOp .shr 101 t_62 (.int .u64 3)) w fun t_68 w =>
                pvv prog (binOp .sub 3 (.int .i64 i) (.int .i64 7)) w fun t_69 w =>
                pvv prog (Instr.indexAt 102 (.slice (some ⟨b3, 0, none⟩) 64 64) t_69) w fun t_70 w =>
                pvv prog (binOp .shr 101 t_64 (.int .u64 10)) w fun t_71 w =>
                bindS (vN (Instr.loadAt 101 t_67)) fun m_73 => ldv prog (Instr.loadAt 101 t_67) w fun t_72 w =>
                bindS (vN (Instr.loadAt 101 t_70)) fun m_75 => ldv prog (Instr.loadAt 101 t_70) w fun t_74 w =>
                Calls prog 66 #[t_62, (.int .i64 7)] w (Ret fun t_76 w => stay prog none m_75 t_74 w <| stay prog none m_73 t_72 w <| 
                Calls prog 66 #[t_62, (.int .i64 18)] w (Ret fun t_77 w => stay prog none m_75 t_74 w <| stay prog none m_73 t_72 w <| 
                pvv prog (binOp .xor 101 t_76 t_77) w fun t_78 w =>
                pvv prog (binOp .xor 101 t_78 t_68) w fun t_79 w =>
                pvv prog (binOp .add 101 t_72 t_79) w fun t_80 w =>
                pvv prog (binOp .add 101 t_80 t_74) w fun t_81 w =>
                Calls prog 66 #[t_64, (.int .i64 17)] w (Ret fun t_82 w => stay prog none m_75 t_74 w <| stay prog none m_73 t_72 w <| 
                Calls prog 66 #[t_64, (.int .i64 19)] w (Ret fun t_83 w => stay prog none m_75 t_74 w <| stay prog none m_73 t_72 w <| 
                pvv prog (binOp .xor 101 t_82 t_83) w fun t_84 w =>
                pvv prog (binOp .xor 101 t_84 t_71) w fun t_85 w =>
                pvv prog (binOp .add 101 t_81 t_85) w fun t_86 w =>
                pvv prog (Instr.indexAt 102 (.slice (some ⟨b3, 0, none⟩) 64 64) (.int .i64 i)) w fun t_87 w =>
                efu prog (Instr.storeAt 101 t_87 t_86) w fun u_88 w =>
                pvv prog (binOp .add 3 (.int .i64 i) (.int .i64 1)) w fun t_89 w =>
                k [t_89] w)))) := by
  have e15 : IntKind.i64.wrap ((i : Int) - 15) = ((i - 15 : Nat) : Int) := by rw [i64_of (by omega) (by omega)]; omega
  have e2 : IntKind.i64.wrap ((i : Int) - 2) = ((i - 2 : Nat) : Int) := by rw [i64_of (by omega) (by omega)]; omega
  have e16 : IntKind.i64.wrap ((i : Int) - 16) = ((i - 16 : Nat) : Int) := by rw [i64_of (by omega) (by omega)]; omega
  have e7 : IntKind.i64.wrap ((i : Int) - 7) = ((i - 7 : Nat) : Int) := by rw [i64_of (by omega) (by omega)]; omega
  have ix : ∀ {j : Nat}, j < 64 → ∀ {w : World} {K : Value → World → Prop}, pvv prog (Instr.indexAt 102 (.slice (some ⟨b3, 0, none⟩) 64 64) (.int .i64 (j : Int))) w K = K (.pointer (some ⟨b3, j, none⟩)) w := fun {j} hj {w K} => by
    rw [o_index (by omega) (by omega)]; simp
  have h := h.own b3
  have gw : ∀ {j : Nat}, j < i → (us.map wv ++ List.replicate (64 - i) (wv 0))[j]? = some (wv (us.getD j 0)) := fun hj => getwv (by omega)
  refine dr_sl h fun w h _ => ?_
  simp only [e15, e2, ↓o_nil, ↓o_field, ↓o_add, ↓o_sub, ↓o_mul, ↓o_lss, ↓o_leq, ↓o_gtr, ↓o_geq, ↓o_not, ↓o_pick, ↓o_eqInt, ↓o_neInt, ↓o_eqBool, ↓o_neBool, ↓o_eqPtr, ↓o_nePtr, ↓o_eqPtr', ↓o_eqSl, ↓o_neSl, ↓o_eqStr, ↓o_neStr, ↓o_len, ↓o_lenS, ↓o_min, ↓o_max, ↓o_extract, ↓o_convInt, ↓cd_true, ↓cd_false, ↓gate_tt, ↓gate_ff, ↓gate_tf, ↓gate_ft, ↓gate_undef, ↓o_bind, ↓stay_v, ↓pop_cons, ↓fin_nil, Option.isNone_none, Option.isNone_some, Bool.not_true, Bool.not_false, Nat.zero_add, decide_true, decide_false, if_true, if_false, Bool.false_eq_true, ↓reduceIte, ix (j := i - 15) (by omega), ix (j := i - 2) (by omega)]
  refine ld_in h (gw (by omega)) (ld_in h (gw (by omega)) ?_)
  refine dr_sl h fun w h _ => ?_
  simp only [e16, e7, ↓o_nil, ↓o_field, ↓o_add, ↓o_sub, ↓o_mul, ↓o_lss, ↓o_leq, ↓o_gtr, ↓o_geq, ↓o_not, ↓o_pick, ↓o_eqInt, ↓o_neInt, ↓o_eqBool, ↓o_neBool, ↓o_eqPtr, ↓o_nePtr, ↓o_eqPtr', ↓o_eqSl, ↓o_neSl, ↓o_eqStr, ↓o_neStr, ↓o_len, ↓o_lenS, ↓o_min, ↓o_max, ↓o_extract, ↓o_convInt, ↓cd_true, ↓cd_false, ↓gate_tt, ↓gate_ff, ↓gate_tf, ↓gate_ft, ↓gate_undef, ↓o_bind, ↓stay_v, ↓pop_cons, ↓fin_nil, Option.isNone_none, Option.isNone_some, Bool.not_true, Bool.not_false, Nat.zero_add, decide_true, decide_false, if_true, if_false, Bool.false_eq_true, ↓reduceIte, ix (j := i - 16) (by omega), ix (j := i - 7) (by omega)]
  rw [o_shrW' (by decide) (by decide)]
  try simp only [e16, e7, ↓o_nil, ↓o_field, ↓o_add, ↓o_sub, ↓o_mul, ↓o_lss, ↓o_leq, ↓o_gtr, ↓o_geq, ↓o_not, ↓o_pick, ↓o_eqInt, ↓o_neInt, ↓o_eqBool, ↓o_neBool, ↓o_eqPtr, ↓o_nePtr, ↓o_eqPtr', ↓o_eqSl, ↓o_neSl, ↓o_eqStr, ↓o_neStr, ↓o_len, ↓o_lenS, ↓o_min, ↓o_max, ↓o_extract, ↓o_convInt, ↓cd_true, ↓cd_false, ↓gate_tt, ↓gate_ff, ↓gate_tf, ↓gate_ft, ↓gate_undef, ↓o_bind, ↓stay_v, ↓pop_cons, ↓fin_nil, Option.isNone_none, Option.isNone_some, Bool.not_true, Bool.not_false, Nat.zero_add, decide_true, decide_false, if_true, if_false, Bool.false_eq_true, ↓reduceIte, ix (j := i - 16) (by omega), ix (j := i - 7) (by omega)]
  rw [o_shrW' (by decide) (by decide)]
  refine ld_in h (gw (by omega)) (ld_in h (gw (by omega)) ?_)
  refine turn_spec h _ (n := 7) (by decide) (by decide) fun w h => ?_
  try simp only [stay_v]
  refine st_in h (gw (by omega)) (st_in h (gw (by omega)) ?_)
  refine turn_spec h _ (n := 18) (by decide) (by decide) fun w h => ?_
  try simp only [stay_v]
  refine st_in h (gw (by omega)) (st_in h (gw (by omega)) ?_)
  rw [o_xorW, o_xorW, o_addW, o_addW]
  refine turn_spec h _ (n := 17) (by decide) (by decide) fun w h => ?_
  try simp only [stay_v]
  refine st_in h (gw (by omega)) (st_in h (gw (by omega)) ?_)
  refine turn_spec h _ (n := 19) (by decide) (by decide) fun w h => ?_
  try simp only [stay_v]
  refine st_in h (gw (by omega)) (st_in h (gw (by omega)) ?_)
  rw [o_xorW, o_xorW, o_addW, ix hi]
  refine store_sl h rfl (by simp [hus]; omega) fun w h => ?_
  try rw [o_add]
  rw [i64_of (by omega) (by omega)]
  refine hk _ ?_
  rw [set_fill (by simpa using hus) (by omega)] at h
  have e : us.map wv ++ [wv (wNext us i)] = (us ++ [wNext us i]).map wv := by simp
  rw [← e]
  exact h
theorem build8 {a b c d e f g h : UInt32} : ∀ w, (Instr.buildSlice 102 8 #[(0, wv a), (1, wv b), (2, wv c), (3, wv d), (4, wv e), (5, wv f), (6, wv g), (7, wv h)]).run prog w = .ok (.slice (some ⟨w.heap.size, 0, none⟩) 8 8) (w.alloc (.cells #[wv a, wv b, wv c, wv d, wv e, wv f, wv g, wv h] 101 (0, 0))) := fun w => by kernel_rfl
theorem r_round {i : Nat} (hi : i < 64) {b3 bk bq cq : Nat} {e1 e2 e3 : TypeId} {fr1 fr2 : Nat × Nat} {ks ws : List UInt32} (hks : ks.length = 64) (hws : ws.length = 64) {v : St} {sp : List Value}
    (h : sat E w (pts bq (.cells (v.list.map wv ++ sp).toArray e3 (0, 0)) * R)) [hb3 : Has R b3 (.cells (ws.map wv).toArray e1 fr1)] [hbk : Has R bk (.cells (ks.map wv).toArray e2 fr2)] {k : List Value → World → Prop}
    (hk : ∀ w bq', sat E w (pts bq' (.cells ((round (ks.getD i 0) (ws.getD i 0) v).list.map wv).toArray 101 (0, 0)) * R) → k [.slice (some ⟨bq', 0, none⟩) 8 8, .int .i64 ((i + 1 : Nat) : Int)] w) :
                  dr w fun w =>
                  pvv prog (Instr.indexAt 102 (.slice (some ⟨bq, 0, none⟩) 8 cq) (.int .i64 4)) w fun t_100 w =>
                  pvv prog (Instr.indexAt 102 (.slice (some ⟨bq, 0, none⟩) 8 cq) (.int .i64 4)) w fun t_101 w =>
                  pvv prog (Instr.indexAt 102 (.slice (some ⟨bq, 0, none⟩) 8 cq) (.int .i64 4)) w fun t_102 w =>
                  bindS (vN (Instr.loadAt 101 t_100)) fun m_104 => ldv prog (Instr.loadAt 101 t_100) w fun t_103 w =>
                  bindS (vN (Instr.loadAt 101 t_101)) fun m_106 => ldv prog (Instr.loadAt 101 t_101) w fun t_105 w =>
                  bindS (vN (Instr.loadAt 101 t_102)) fun m_108 => ldv prog (Instr.loadAt 101 t_102) w fun t_107 w =>
                  Calls prog 66 #[t_103, (.int .i64 6)] w (Ret fun t_109 w => stay prog none m_108 t_107 w <| stay prog none m_106 t_105 w <| 
                  Calls prog 66 #[t_105, (.int .i64 11)] w (Ret fun t_110 w => stay prog none m_108 t_107 w <| stay prog none m_104 t_103 w <| 
                  pvv prog (binOp .xor 101 t_109 t_110) w fun t_111 w =>
                  Calls prog 66 #[t_107, (.int .i64 25)] w (Ret fun t_112 w => stay prog none m_106 t_105 w <| stay prog none m_104 t_103 w <| 
                  pvv prog (binOp .xor 101 t_111 t_112) w fun t_113 w =>
                  dr w fun w =>
                  pvv prog (Instr.indexAt 102 (.slice (some ⟨bq, 0, none⟩) 8 cq) (.int .i64 4)) w fun t_114 w =>
                  pvv prog (Instr.indexAt 102 (.slice (some ⟨bq, 0, none⟩) 8 cq) (.int .i64 5)) w fun t_115 w =>
                  pvv prog (Instr.indexAt 102 (.slice (some ⟨bq, 0, none⟩) 8 cq) (.int .i64 4)) w fun t_116 w =>
                  pvv prog (Instr.indexAt 102 (.slice (some ⟨bq, 0, none⟩) 8 cq) (.int .i64 6)) w fun t_117 w =>
                  bindS (vN (Instr.loadAt 101 t_114)) fun m_119 => ldv prog (Instr.loadAt 101 t_114) w fun t_118 w =>
                  bindS (vN (Instr.loadAt 101 t_115)) fun m_121 => ldv prog (Instr.loadAt 101 t_115) w fun t_120 w =>
                  pvv prog (binOp .and 101 t_118 t_120) w fun t_122 w =>
                  bindS (vN (Instr.loadAt 101 t_116)) fun m_124 => ldv prog (Instr.loadAt 101 t_116) w fun t_123 w =>
                  pvv prog (Op.unary .xor t_123) w fun t_125 w =>
                  bindS (vN (Instr.loadAt 101 t_117)) fun m_127 => ldv prog (Instr.loadAt 101 t_117) w fun t_126 w =>
                  pvv prog (binOp .and 101 t_125 t_126) w fun t_128 w =>
                  pvv prog (binOp .xor 101 t_122 t_128) w fun t_129 w =>
                  dr w fun w =>
                  pvv prog (Instr.indexAt 102 (.slice (some ⟨bq, 0, none⟩) 8 cq) (.int .i64 7)) w fun t_130 w =>
                  pvv prog (Instr.indexAt 102 (.slice (some ⟨bk, 0, none⟩) 64 64) (.int .i64 i)) w fun t_131 w =>
                  pvv prog (Instr.indexAt 102 (.slice (some ⟨b3, 0, none⟩) 64 64) (.int .i64 i)) w fun t_132 w =>
                  bindS (vN (Instr.loadAt 101 t_130)) fun m_134 => ldv prog (Instr.loadAt 101 t_130) w fun t_133 w =>
                  pvv prog (binOp .add 101 t_133 t_113) w fun t_135 w =>
                  pvv prog (binOp .add 101 t_135 t_129) w fun t_136 w =>
                  bindS (vN (Instr.loadAt 101 t_131)) fun m_138 => ldv prog (Instr.loadAt 101 t_131) w fun t_137 w =>
                  pvv prog (binOp .add 101 t_136 t_137) w fun t_139 w =>
                  bindS (vN (Instr.loadAt 101 t_132)) fun m_141 => ldv prog (Instr.loadAt 101 t_132) w fun t_140 w =>
                  pvv prog (binOp .add 101 t_139 t_140) w fun t_142 w =>
                  dr w fun w =>
                  pvv prog (Instr.indexAt 102 (.slice (some ⟨bq, 0, none⟩) 8 cq) (.int .i64 0)) w fun t_143 w =>
                  pvv prog (Instr.indexAt 102 (.slice (some ⟨bq, 0, none⟩) 8 cq) (.int .i64 0)) w fun t_144 w =>
                  pvv prog (Instr.indexAt 102 (.slice (some ⟨bq, 0, none⟩) 8 cq) (.int .i64 0)) w fun t_145 w =>
                  bindS (vN (Instr.loadAt 101 t_143)) fun m_147 => ldv prog (Instr.loadAt 101 t_143) w fun t_146 w =>
                  bindS (vN (Instr.loadAt 101 t_144)) fun m_149 => ldv prog (Instr.loadAt 101 t_144) w fun t_148 w =>
                  bindS (vN (Instr.loadAt 101 t_145)) fun m_151 => ldv prog (Instr.loadAt 101 t_145) w fun t_150 w =>
                  Calls prog 66 #[t_146, (.int .i64 2)] w (Ret fun t_152 w => stay prog none m_151 t_150 w <| stay prog none m_149 t_148 w <| 
                  Calls prog 66 #[t_148, (.int .i64 13)] w (Ret fun t_153 w => stay prog none m_151 t_150 w <| stay prog none m_147 t_146 w <| 
                  pvv prog (binOp .xor 101 t_152 t_153) w fun t_154 w =>
                  Calls prog 66 #[t_150, (.int .i64 22)] w (Ret fun t_155 w => stay prog none m_149 t_148 w <| stay prog none m_147 t_146 w <| 
                  pvv prog (binOp .xor 101 t_154 t_155) w fun t_156 w =>
                  dr w fun w =>
                  pvv prog (Instr.indexAt 102 (.slice (some ⟨bq, 0, none⟩) 8 cq) (.int .i64 0)) w fun t_157 w =>
                  pvv prog (Instr.indexAt 102 (.slice (some ⟨bq, 0, none⟩) 8 cq) (.int .i64 1)) w fun t_158 w =>
                  pvv prog (Instr.indexAt 102 (.slice (some ⟨bq, 0, none⟩) 8 cq) (.int .i64 0)) w fun t_159 w =>
                  pvv prog (Instr.indexAt 102 (.slice (some ⟨bq, 0, none⟩) 8 cq) (.int .i64 2)) w fun t_160 w =>
                  pvv prog (Instr.indexAt 102 (.slice (some ⟨bq, 0, none⟩) 8 cq) (.int .i64 1)) w fun t_161 w =>
                  pvv prog (Instr.indexAt 102 (.slice (some ⟨bq, 0, none⟩) 8 cq) (.int .i64 2)) w fun t_162 w =>
                  bindS (vN (Instr.loadAt 101 t_157)) fun m_164 => ldv prog (Instr.loadAt 101 t_157) w fun t_163 w =>
                  bindS (vN (Instr.loadAt 101 t_158)) fun m_166 => ldv prog (Instr.loadAt 101 t_158) w fun t_165 w =>
                  pvv prog (binOp .and 101 t_163 t_165) w fun t_167 w =>
                  bindS (vN (Instr.loadAt 101 t_159)) fun m_169 => ldv prog (Instr.loadAt 101 t_159) w fun t_168 w =>
                  bindS (vN (Instr.loadAt 101 t_160)) fun m_171 => ldv prog (Instr.loadAt 101 t_160) w fun t_170 w =>
                  pvv prog (binOp .and 101 t_168 t_170) w fun t_172 w =>
                  pvv prog (binOp .xor 101 t_167 t_172) w fun t_173 w =>
                  bindS (vN (Instr.loadAt 101 t_161)) fun m_175 => ldv prog (Instr.loadAt 101 t_161) w fun t_174 w =>
                  bindS (vN (Instr.loadAt 101 t_162)) fun m_177 => ldv prog (Instr.loadAt 101 t_162) w fun t_176 w =>
                  pvv prog (binOp .and 101 t_174 t_176) w fun t_178 w =>
                  pvv prog (binOp .xor 101 t_173 t_178) w fun t_179 w =>
                  dr w fun w =>
                  pvv prog (binOp .add 101 t_142 t_156) w fun t_180 w =>
                  pvv prog (binOp .add 101 t_180 t_179) w fun t_181 w =>
                  pvv prog (Instr.indexAt 102 (.slice (some ⟨bq, 0, none⟩) 8 cq) (.int .i64 0)) w fun t_182 w =>
                  pvv prog (Instr.indexAt 102 (.slice (some ⟨bq, 0, none⟩) 8 cq) (.int .i64 1)) w fun t_183 w =>
                  pvv prog (Instr.indexAt 102 (.slice (some ⟨bq, 0, none⟩) 8 cq) (.int .i64 2)) w fun t_184 w =>
                  pvv prog (Instr.indexAt 102 (.slice (some ⟨bq, 0, none⟩) 8 cq) (.int .i64 3)) w fun t_185 w =>
                  pvv prog (Instr.indexAt 102 (.slice (some ⟨bq, 0, none⟩) 8 cq) (.int .i64 4)) w fun t_186 w =>
                  pvv prog (Instr.indexAt 102 (.slice (some ⟨bq, 0, none⟩) 8 cq) (.int .i64 5)) w fun t_187 w =>
                  pvv prog (Instr.indexAt 102 (.slice (some ⟨bq, 0, none⟩) 8 cq) (.int .i64 6)) w fun t_188 w =>
                  bindS (vN (Instr.loadAt 101 t_182)) fun m_190 => ldv prog (Instr.loadAt 101 t_182) w fun t_189 w =>
                  bindS (vN (Instr.loadAt 101 t_183)) fun m_192 => ldv prog (Instr.loadAt 101 t_183) w fun t_191 w =>
                  bindS (vN (Instr.loadAt 101 t_184)) fun m_194 => ldv prog (Instr.loadAt 101 t_184) w fun t_193 w =>
                  bindS (vN (Instr.loadAt 101 t_185)) fun m_196 => ldv prog (Instr.loadAt 101 t_185) w fun t_195 w =>
                  pvv prog (binOp .add 101 t_195 t_142) w fun t_197 w =>
                  bindS (vN (Instr.loadAt 101 t_186)) fun m_199 => ldv prog (Instr.loadAt 101 t_186) w fun t_198 w =>
                  bindS (vN (Instr.loadAt 101 t_187)) fun m_201 => ldv prog (Instr.loadAt 101 t_187) w fun t_200 w =>
                  bindS (vN (Instr.loadAt 101 t_188)) fun m_203 => ldv prog (Instr.loadAt 101 t_188) w fun t_202 w =>
                  efv prog (Instr.buildSlice 102 8 #[(0, t_181), (1, t_189), (2, t_191), (3, t_193), (4, t_197), (5, t_198), (6, t_200), (7, t_202)]) w fun t_204 w => stay prog none m_196 t_195 w <| 
                  pvv prog (binOp .add 3 (.int .i64 i) (.int .i64 1)) w fun t_205 w =>
                  k [t_204, t_205] w)))))) := by
  have ix : ∀ {j : Nat}, j < 64 → ∀ {b : Nat} {w : World} {K : Value → World → Prop}, pvv prog (Instr.indexAt 102 (.slice (some ⟨b, 0, none⟩) 64 64) (.int .i64 (j : Int))) w K = K (.pointer (some ⟨b, j, none⟩)) w := fun {j} hj {b w K} => by
    rw [o_index (by omega) (by omega)]; simp
  have i0 : ∀ {w : World} {K : Value → World → Prop}, pvv prog (Instr.indexAt 102 (.slice (some ⟨bq, 0, none⟩) 8 cq) (.int .i64 0)) w K = K (.pointer (some ⟨bq, 0, none⟩)) w := o_index (x := 0) (l := 8) (n := 1) (by decide) (by decide)
  have i1 : ∀ {w : World} {K : Value → World → Prop}, pvv prog (Instr.indexAt 102 (.slice (some ⟨bq, 0, none⟩) 8 cq) (.int .i64 1)) w K = K (.pointer (some ⟨bq, 1, none⟩)) w := o_index (x := 1) (l := 8) (n := 1) (by decide) (by decide)
  have i2 : ∀ {w : World} {K : Value → World → Prop}, pvv prog (Instr.indexAt 102 (.slice (some ⟨bq, 0, none⟩) 8 cq) (.int .i64 2)) w K = K (.pointer (some ⟨bq, 2, none⟩)) w := o_index (x := 2) (l := 8) (n := 1) (by decide) (by decide)
  have i3 : ∀ {w : World} {K : Value → World → Prop}, pvv prog (Instr.indexAt 102 (.slice (some ⟨bq, 0, none⟩) 8 cq) (.int .i64 3)) w K = K (.pointer (some ⟨bq, 3, none⟩)) w := o_index (x := 3) (l := 8) (n := 1) (by decide) (by decide)
  have i4 : ∀ {w : World} {K : Value → World → Prop}, pvv prog (Instr.indexAt 102 (.slice (some ⟨bq, 0, none⟩) 8 cq) (.int .i64 4)) w K = K (.pointer (some ⟨bq, 4, none⟩)) w := o_index (x := 4) (l := 8) (n := 1) (by decide) (by decide)
  have i5 : ∀ {w : World} {K : Value → World → Prop}, pvv prog (Instr.indexAt 102 (.slice (some ⟨bq, 0, none⟩) 8 cq) (.int .i64 5)) w K = K (.pointer (some ⟨bq, 5, none⟩)) w := o_index (x := 5) (l := 8) (n := 1) (by decide) (by decide)
  have i6 : ∀ {w : World} {K : Value → World → Prop}, pvv prog (Instr.indexAt 102 (.slice (some ⟨bq, 0, none⟩) 8 cq) (.int .i64 6)) w K = K (.pointer (some ⟨bq, 6, none⟩)) w := o_index (x := 6) (l := 8) (n := 1) (by decide) (by decide)
  have i7 : ∀ {w : World} {K : Value → World → Prop}, pvv prog (Instr.indexAt 102 (.slice (some ⟨bq, 0, none⟩) 8 cq) (.int .i64 7)) w K = K (.pointer (some ⟨bq, 7, none⟩)) w := o_index (x := 7) (l := 8) (n := 1) (by decide) (by decide)
  have h : sat E w (pts bq (.cells (wv v.a :: wv v.b :: wv v.c :: wv v.d :: wv v.e :: wv v.f :: wv v.g :: wv v.h :: sp).toArray e3 (0, 0)) * R) := h
  refine dr_sl h fun w h _ => ?_
  simp only [↓o_nil, ↓o_field, ↓o_add, ↓o_sub, ↓o_mul, ↓o_lss, ↓o_leq, ↓o_gtr, ↓o_geq, ↓o_not, ↓o_pick, ↓o_eqInt, ↓o_neInt, ↓o_eqBool, ↓o_neBool, ↓o_eqPtr, ↓o_nePtr, ↓o_eqPtr', ↓o_eqSl, ↓o_neSl, ↓o_eqStr, ↓o_neStr, ↓o_len, ↓o_lenS, ↓o_min, ↓o_max, ↓o_extract, ↓o_convInt, ↓cd_true, ↓cd_false, ↓gate_tt, ↓gate_ff, ↓gate_tf, ↓gate_ft, ↓gate_undef, ↓o_bind, ↓stay_v, ↓pop_cons, ↓fin_nil, Option.isNone_none, Option.isNone_some, Bool.not_true, Bool.not_false, Nat.zero_add, decide_true, decide_false, if_true, if_false, Bool.false_eq_true, ↓reduceIte, i4]
  refine ld_at h (ld_at h (ld_at h ?_))
  refine turn_spec h _ (n := 6) (by decide) (by decide) fun w h => ?_
  try simp only [stay_v]
  refine st_at h (st_at h ?_)
  refine turn_spec h _ (n := 11) (by decide) (by decide) fun w h => ?_
  try simp only [stay_v]
  refine st_at h (st_at h ?_)
  rw [o_xorW]
  refine turn_spec h _ (n := 25) (by decide) (by decide) fun w h => ?_
  try simp only [stay_v]
  refine st_at h (st_at h ?_)
  rw [o_xorW]
  refine dr_sl h fun w h _ => ?_
  simp only [↓o_nil, ↓o_field, ↓o_add, ↓o_sub, ↓o_mul, ↓o_lss, ↓o_leq, ↓o_gtr, ↓o_geq, ↓o_not, ↓o_pick, ↓o_eqInt, ↓o_neInt, ↓o_eqBool, ↓o_neBool, ↓o_eqPtr, ↓o_nePtr, ↓o_eqPtr', ↓o_eqSl, ↓o_neSl, ↓o_eqStr, ↓o_neStr, ↓o_len, ↓o_lenS, ↓o_min, ↓o_max, ↓o_extract, ↓o_convInt, ↓cd_true, ↓cd_false, ↓gate_tt, ↓gate_ff, ↓gate_tf, ↓gate_ft, ↓gate_undef, ↓o_bind, ↓stay_v, ↓pop_cons, ↓fin_nil, Option.isNone_none, Option.isNone_some, Bool.not_true, Bool.not_false, Nat.zero_add, decide_true, decide_false, if_true, if_false, Bool.false_eq_true, ↓reduceIte, i0, i1, i2, i3, i4, i5, i6, i7, ix hi]
  refine ld_at h (ld_at h ?_)
  rw [o_andW]
  refine ld_at h ?_
  rw [o_notW]
  refine ld_at h ?_
  rw [o_andW, o_xorW]
  refine dr_sl h fun w h _ => ?_
  try simp only [↓o_nil, ↓o_field, ↓o_add, ↓o_sub, ↓o_mul, ↓o_lss, ↓o_leq, ↓o_gtr, ↓o_geq, ↓o_not, ↓o_pick, ↓o_eqInt, ↓o_neInt, ↓o_eqBool, ↓o_neBool, ↓o_eqPtr, ↓o_nePtr, ↓o_eqPtr', ↓o_eqSl, ↓o_neSl, ↓o_eqStr, ↓o_neStr, ↓o_len, ↓o_lenS, ↓o_min, ↓o_max, ↓o_extract, ↓o_convInt, ↓cd_true, ↓cd_false, ↓gate_tt, ↓gate_ff, ↓gate_tf, ↓gate_ft, ↓gate_undef, ↓o_bind, ↓stay_v, ↓pop_cons, ↓fin_nil, Option.isNone_none, Option.isNone_some, Bool.not_true, Bool.not_false, Nat.zero_add, decide_true, decide_false, if_true, if_false, Bool.false_eq_true, ↓reduceIte, i0, i1, i2, i3, i4, i5, i6, i7, ix hi]
  refine ld_at h ?_
  rw [o_addW, o_addW]
  refine ld_in (b := bk) h (getwv' (by omega)) ?_
  rw [o_addW]
  refine ld_in (b := b3) h (getwv' (by omega)) ?_
  rw [o_addW]
  refine dr_sl h fun w h _ => ?_
  try simp only [↓o_nil, ↓o_field, ↓o_add, ↓o_sub, ↓o_mul, ↓o_lss, ↓o_leq, ↓o_gtr, ↓o_geq, ↓o_not, ↓o_pick, ↓o_eqInt, ↓o_neInt, ↓o_eqBool, ↓o_neBool, ↓o_eqPtr, ↓o_nePtr, ↓o_eqPtr', ↓o_eqSl, ↓o_neSl, ↓o_eqStr, ↓o_neStr, ↓o_len, ↓o_lenS, ↓o_min, ↓o_max, ↓o_extract, ↓o_convInt, ↓cd_true, ↓cd_false, ↓gate_tt, ↓gate_ff, ↓gate_tf, ↓gate_ft, ↓gate_undef, ↓o_bind, ↓stay_v, ↓pop_cons, ↓fin_nil, Option.isNone_none, Option.isNone_some, Bool.not_true, Bool.not_false, Nat.zero_add, decide_true, decide_false, if_true, if_false, Bool.false_eq_true, ↓reduceIte, i0, i1, i2, i3, i4, i5, i6, i7]
  refine ld_at h (ld_at h (ld_at h ?_))
  refine turn_spec h _ (n := 2) (by decide) (by decide) fun w h => ?_
  try simp only [stay_v]
  refine st_at h (st_at h ?_)
  refine turn_spec h _ (n := 13) (by decide) (by decide) fun w h => ?_
  try simp only [stay_v]
  refine st_at h (st_at h ?_)
  rw [o_xorW]
  refine turn_spec h _ (n := 22) (by decide) (by decide) fun w h => ?_
  try simp only [stay_v]
  refine st_at h (st_at h ?_)
  rw [o_xorW]
  refine dr_sl h fun w h _ => ?_
  try simp only [↓o_nil, ↓o_field, ↓o_add, ↓o_sub, ↓o_mul, ↓o_lss, ↓o_leq, ↓o_gtr, ↓o_geq, ↓o_not, ↓o_pick, ↓o_eqInt, ↓o_neInt, ↓o_eqBool, ↓o_neBool, ↓o_eqPtr, ↓o_nePtr, ↓o_eqPtr', ↓o_eqSl, ↓o_neSl, ↓o_eqStr, ↓o_neStr, ↓o_len, ↓o_lenS, ↓o_min, ↓o_max, ↓o_extract, ↓o_convInt, ↓cd_true, ↓cd_false, ↓gate_tt, ↓gate_ff, ↓gate_tf, ↓gate_ft, ↓gate_undef, ↓o_bind, ↓stay_v, ↓pop_cons, ↓fin_nil, Option.isNone_none, Option.isNone_some, Bool.not_true, Bool.not_false, Nat.zero_add, decide_true, decide_false, if_true, if_false, Bool.false_eq_true, ↓reduceIte, i0, i1, i2, i3, i4, i5, i6, i7]
  refine ld_at h (ld_at h ?_)
  rw [o_andW]
  refine ld_at h (ld_at h ?_)
  rw [o_andW, o_xorW]
  refine ld_at h (ld_at h ?_)
  rw [o_andW, o_xorW]
  refine dr_sl h fun w h _ => ?_
  rw [o_addW, o_addW]
  try simp only [↓o_nil, ↓o_field, ↓o_add, ↓o_sub, ↓o_mul, ↓o_lss, ↓o_leq, ↓o_gtr, ↓o_geq, ↓o_not, ↓o_pick, ↓o_eqInt, ↓o_neInt, ↓o_eqBool, ↓o_neBool, ↓o_eqPtr, ↓o_nePtr, ↓o_eqPtr', ↓o_eqSl, ↓o_neSl, ↓o_eqStr, ↓o_neStr, ↓o_len, ↓o_lenS, ↓o_min, ↓o_max, ↓o_extract, ↓o_convInt, ↓cd_true, ↓cd_false, ↓gate_tt, ↓gate_ff, ↓gate_tf, ↓gate_ft, ↓gate_undef, ↓o_bind, ↓stay_v, ↓pop_cons, ↓fin_nil, Option.isNone_none, Option.isNone_some, Bool.not_true, Bool.not_false, Nat.zero_add, decide_true, decide_false, if_true, if_false, Bool.false_eq_true, ↓reduceIte, i0, i1, i2, i3, i4, i5, i6, i7]
  refine ld_at h (ld_at h (ld_at h (ld_at h ?_)))
  rw [o_addW]
  refine ld_at h (ld_at h (ld_at h ?_))
  refine buildSlice_sl (e := 101) h build8 fun b1 w h => ?_
  try simp only [stay_v]
  refine st_at h ?_
  try rw [o_add]
  rw [i64_of (by omega) (by omega)]
  refine hk _ _ ?_
  have h := h.lose bq
  simp only [round, tOf, uOf, big0, big1, St.list, List.map_cons, List.map_nil]
  rw [← ch_eq, ← maj_eq, ← UInt32.add_assoc]
  exact h
end Go.Proofs.YtjeiojibnmfibaaDoor
