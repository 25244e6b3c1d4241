/-
  The reference's SHA-256: words and rounds.
-/
import Derived.Test.YtjeiojibnmfibaaDoorHshK
set_option linter.all false
set_option maxRecDepth 10000
namespace Go.Proofs.YtjeiojibnmfibaaDoor
open Go Hold
variable {E : World0} {w : World} {H R : HP} {K : Value → World → Prop}
theorem turn_spec (h : sat E w H) (x : UInt32) {n : Nat} (h1 : 1 ≤ n) (h2 : n ≤ 31) (k : ∀ w', sat E w' H → K (wv (rotr x n)) w') : Calls prog 66 #[wv x, .int .i64 (n : Int)] w (Ret K) := by
  refine c66 ?_
  unfold B66
  refine dr_sl h fun w h _ => ?_
  rw [o_shrW (by omega), o_sub]
  have e : IntKind.i64.wrap (32 - (n : Int)) = ((32 - n : Nat) : Int) := by rw [i64_of (by omega) (by omega)]; omega
  rw [e, o_shlW (by omega), o_orW, UInt32.or_comm]
  exact k _ h
theorem o_notW {P : Program} {a : UInt32} {K : Value → World → Prop} : pvv P (Op.unary .xor (wv a)) w K = K (wv (~~~a)) w := pvv_eq fun _ => by
  have e : (~~~a) = 4294967295 ^^^ a := by
    apply UInt32.toBitVec_inj.1
    apply BitVec.eq_of_getLsbD_eq
    intro i hi
    rw [UInt32.toBitVec_not, UInt32.toBitVec_xor, BitVec.getLsbD_not, BitVec.getLsbD_xor]
    have : ∀ i : Fin 32, (UInt32.toBitVec 4294967295).getLsbD i.val = true := by decide
    rw [this ⟨i, hi⟩]
    simp [hi]
  rw [e]
  have := @o_xorW P (w := w) (K := fun v _ => v = wv (4294967295 ^^^ a)) (t := 0) (a := 4294967295) (b := a)
  simp only [Op.unary, wv, Op.intBits, IntKind.bits, ofInt32]
  simp only [IntKind.signed, IntKind.max, if_false, Bool.false_eq_true]
  simp
  have hx := wrapW (4294967295 ^^^ a)
  have e2 : (BitVec.ofInt 32 (2 ^ IntKind.u32.bits - 1)) = (4294967295 : UInt32).toBitVec := by decide
  rw [e2]
  exact hx.trans (by simp)
theorem ch_eq (e f g : UInt32) : (e &&& f) ^^^ (~~~e &&& g) = g ^^^ (e &&& (f ^^^ g)) := by
  apply UInt32.toBitVec_inj.1
  apply BitVec.eq_of_getLsbD_eq
  intro i hi
  simp only [UInt32.toBitVec_and, UInt32.toBitVec_xor, UInt32.toBitVec_not, BitVec.getLsbD_and, BitVec.getLsbD_xor, BitVec.getLsbD_not, hi, decide_true, Bool.true_and]
  cases e.toBitVec.getLsbD i <;> cases f.toBitVec.getLsbD i <;> cases g.toBitVec.getLsbD i <;> rfl
theorem maj_eq (a b c : UInt32) : ((a &&& b) ^^^ (a &&& c)) ^^^ (b &&& c) = (a &&& b) ||| (c &&& (a ||| b)) := by
  apply UInt32.toBitVec_inj.1
  apply BitVec.eq_of_getLsbD_eq
  intro i hi
  simp only [UInt32.toBitVec_and, UInt32.toBitVec_xor, UInt32.toBitVec_or, BitVec.getLsbD_and, BitVec.getLsbD_xor, BitVec.getLsbD_or]
  cases a.toBitVec.getLsbD i <;> cases b.toBitVec.getLsbD i <;> cases c.toBitVec.getLsbD i <;> rfl
def acc (b : List UInt8) (i : Nat) : Nat → UInt32
  | 0 => 0
  | j + 1 => (acc b i j <<< UInt32.ofNat 8) ||| (b.getD (4 * i + j) 0).toUInt32
theorem acc_word (b : List UInt8) (i : Nat) : acc b i 4 = word b i := by
  simp only [acc, word, Nat.add_zero]
  generalize (b.getD (4 * i) 0).toUInt32 = x0
  generalize (b.getD (4 * i + 1) 0).toUInt32 = x1
  generalize (b.getD (4 * i + 2) 0).toUInt32 = x2
  generalize (b.getD (4 * i + 3) 0).toUInt32 = x3
  apply UInt32.toBitVec_inj.1
  simp only [UInt32.toBitVec_or, UInt32.toBitVec_shiftLeft]
  have e8 : ((UInt32.ofNat 8).toBitVec % 32 : BitVec 32).toNat = 8 := by decide
  have e16 : ((UInt32.ofNat 16).toBitVec % 32 : BitVec 32).toNat = 16 := by decide
  have e24 : ((UInt32.ofNat 24).toBitVec % 32 : BitVec 32).toNat = 24 := by decide
  simp only [BitVec.shiftLeft_eq', e8, e16, e24]
  apply BitVec.eq_of_getLsbD_eq
  intro i hi
  simp only [BitVec.getLsbD_or, BitVec.getLsbD_shiftLeft]
  have z : (UInt32.toBitVec 0).getLsbD (i - 8 - 8 - 8 - 8) = false := by simp
  by_cases h1 : i < 8
  · simp [h1, hi, show i < 16 by omega, show i < 24 by omega]
  · by_cases h2 : i < 16
    · simp [h1, hi, h2, show i < 24 by omega, show i - 8 < 8 by omega, show i - 8 < 32 by omega]
    · by_cases h3 : i < 24
      · simp [h1, h2, h3, hi, show ¬ (i - 8 < 8) by omega, show i - 8 < 32 by omega, show i - 8 - 8 < 8 by omega, show i - 8 - 8 < 32 by omega, show i - 8 - 8 = i - 16 by omega, show i - 16 < 8 by omega]
      · simp [h1, h2, h3, hi, show ¬ (i - 8 < 8) by omega, show i - 8 < 32 by omega, show ¬ (i - 8 - 8 < 8) by omega, show i - 8 - 8 < 32 by omega, show i - 8 - 8 - 8 < 32 by omega, show i - 8 - 8 - 8 < 8 by omega, show i - 8 - 8 = i - 16 by omega, show i - 16 - 8 = i - 24 by omega, show ¬ (i - 16 < 8) by omega, show i - 16 < 32 by omega]
theorem set_mine {α : Type} {us : List α} {z : α} {n i : Nat} (hi : us.length = i) (h : i < n) : (us ++ List.replicate (n - i) z).set i z = us ++ List.replicate (n - i) z := by
  rw [set_fill hi h, show n - i = (n - (i + 1)) + 1 by omega, List.replicate_succ]
  simp
theorem getD_drop' {l : List UInt8} {a i : Nat} : (l.drop a).getD i 0 = l.getD (a + i) 0 := by
  simp [List.getD_eq_getElem?_getD]
theorem r_word {q i b3 bm om cm : Nat} {e3 : TypeId} {us : List UInt32} {m : List UInt8} (hi : i < 16) (hus : us.length = i) (hq : 64 * q + 64 ≤ m.length) (hml : m.length ≤ 140737488355328)
    (h : sat E w (pts b3 (.cells (us.map wv ++ List.replicate (64 - i) (wv 0)).toArray e3 (0, 0)) * R)) (hm : Rds R (.slice (some ⟨bm, om, none⟩) m.length cm) m.length (m.map bv)) {k : List Value → World → Prop}
    (hk : ∀ w, sat E w (pts b3 (.cells ((us ++ [word (m.drop (64 * q)) i]).map wv ++ List.replicate (64 - (i + 1)) (wv 0)).toArray e3 (0, 0)) * R) → k [.int .i64 ((i + 1 : Nat) : Int)] w) :
              lp (fun σ w again_36 => pop σ fun j_35 σ => fin σ <|
                pvv prog (binOp .lss 3 j_35 (.int .i64 4)) w fun t_37 w =>
                cd t_37 (
                  dr w fun w =>
                  pvv prog (Instr.indexAt 102 (.slice (some ⟨b3, 0, none⟩) 64 64) (.int .i64 i)) w fun t_38 w =>
                  pvv prog (binOp .mul 3 (.int .i64 4) (.int .i64 i)) w fun t_39 w =>
                  pvv prog (binOp .add 3 (.int .i64 ((64 * q : Nat) : Int)) t_39) w fun t_40 w =>
                  pvv prog (binOp .add 3 t_40 j_35) w fun t_41 w =>
                  pvv prog (Instr.indexAt 72 (.slice (some ⟨bm, om, none⟩) m.length cm) t_41) w fun t_42 w =>
                  bindS (vN (Instr.loadAt 101 t_38)) fun m_44 => ldv prog (Instr.loadAt 101 t_38) w fun t_43 w =>
                  pvv prog (binOp .shl 101 t_43 (.int .u64 8)) w fun t_45 w =>
                  bindS (vN (Instr.loadAt 5 t_42)) fun m_47 => ldv prog (Instr.loadAt 5 t_42) w fun t_46 w =>
                  pvv prog (convert 5 101 t_46) w fun t_48 w =>
                  pvv prog (binOp .or 101 t_45 t_48) w fun t_49 w =>
                  pvv prog (Instr.indexAt 102 (.slice (some ⟨b3, 0, none⟩) 64 64) (.int .i64 i)) w fun t_50 w =>
                  efu prog (Instr.storeAt 101 t_50 t_49) w fun u_51 w =>
                  pvv prog (binOp .add 3 j_35 (.int .i64 1)) w fun t_52 w =>
                  again_36 [t_52] w) <|
                pvv prog (binOp .add 3 (.int .i64 i) (.int .i64 1)) w fun t_54 w =>
                k [t_54] w) [(.int .i64 0)] w := by
  refine lp_nat (fun c σ w => ∃ j : Nat, σ = [.int .i64 j] ∧ c = 4 - j ∧ j ≤ 4 ∧
    sat E w (pts b3 (.cells ((us.map wv ++ List.replicate (64 - i) (wv 0)).set i (wv (acc (m.drop (64 * q)) i j))).toArray e3 (0, 0)) * R)) 4 ⟨0, rfl, rfl, by omega, by
      show sat E w (pts b3 (.cells ((us.map wv ++ List.replicate (64 - i) (wv 0)).set i (wv 0)).toArray e3 (0, 0)) * R)
      rw [set_mine (by simpa using hus) (by omega)]; exact h⟩ ?_
  rintro c σ w again ⟨j, rfl, rfl, hj, h⟩ hag
  have hlen : i < (us.map wv ++ List.replicate (64 - i) (wv 0)).length := by simp; omega
  rw [pop_cons, fin_nil, o_lss]
  refine cd_dec (fun hlt => ?_) (fun hge => ?_)
  · have hlt : j < 4 := by omega
    have ix : ∀ {w : World} {K : Value → World → Prop}, pvv prog (Instr.indexAt 102 (.slice (some ⟨b3, 0, none⟩) 64 64) (.int .i64 (i : Int))) w K = K (.pointer (some ⟨b3, i, none⟩)) w := fun {w K} => by
      rw [o_index (by omega) (by omega)]; simp
    have e0 : IntKind.i64.wrap (4 * (i : Int)) = ((4 * i : Nat) : Int) := by rw [i64_of (by omega) (by omega)]; omega
    have e1 : IntKind.i64.wrap (((64 * q : Nat) : Int) + ((4 * i : Nat) : Int)) = ((64 * q + 4 * i : Nat) : Int) := by rw [i64_of (by omega) (by omega)]; omega
    have e2 : IntKind.i64.wrap (((64 * q + 4 * i : Nat) : Int) + (j : Int)) = ((64 * q + 4 * i + j : Nat) : Int) := by rw [i64_of (by omega) (by omega)]; omega
    have im : ∀ {w : World} {K : Value → World → Prop}, pvv prog (Instr.indexAt 72 (.slice (some ⟨bm, om, none⟩) m.length cm) (.int .i64 ((64 * q + 4 * i + j : Nat) : Int))) w K = K (.pointer (some ⟨bm, om + (64 * q + 4 * i + j), none⟩)) w := fun {w K} => by
      rw [o_index (by omega) (by omega)]; simp only [Int.toNat_natCast, Nat.mul_one]
    refine dr_sl h fun w h _ => ?_
    simp only [ix, e0, e1, e2, im, ↓o_nil, ↓o_field, ↓o_add, ↓o_sub, ↓o_mul, ↓o_lss, ↓o_leq, ↓o_gtr, ↓o_geq, ↓o_not, ↓o_pick, ↓o_eqInt, ↓o_neInt, ↓o_eqBool, ↓o_neBool, ↓o_eqPtr, ↓o_nePtr, ↓o_eqPtr', ↓o_eqSl, ↓o_neSl, ↓o_eqStr, ↓o_neStr, ↓o_len, ↓o_lenS, ↓o_min, ↓o_max, ↓o_extract, ↓o_convInt, ↓cd_true, ↓cd_false, ↓gate_tt, ↓gate_ff, ↓gate_tf, ↓gate_ft, ↓gate_undef, ↓o_bind, ↓stay_v, ↓pop_cons, ↓fin_nil, Option.isNone_none, Option.isNone_some, Bool.not_true, Bool.not_false, Nat.zero_add, decide_true, decide_false, if_true, if_false, Bool.false_eq_true, ↓reduceIte]
    refine ld_in (b := b3) (v := wv (acc (m.drop (64 * q)) i j)) h (by rw [List.getElem?_set_self hlen]) ?_
    rw [o_shlW' (by decide) (by decide)]
    refine ld_rd h (hm.right) _ rfl (getbv (by omega)) ?_
    rw [o_convBW, o_orW]
    try rw [ix]
    refine store_sl (b := b3) h rfl (by rw [List.length_set]; exact hlen) fun w h => ?_
    try rw [o_add]
    rw [i64_of (by omega) (by omega)]
    refine hag (4 - (j + 1)) _ _ (by omega) ⟨j + 1, rfl, rfl, by omega, ?_⟩
    rw [List.set_set] at h
    have e : acc (m.drop (64 * q)) i (j + 1) = (acc (m.drop (64 * q)) i j <<< UInt32.ofNat 8) ||| (m.getD (64 * q + 4 * i + j) 0).toUInt32 := by
      simp only [acc]
      rw [getD_drop', ← Nat.add_assoc]
    rw [e]
    exact h
  · have hj4 : j = 4 := by omega
    subst hj4
    rw [o_add, i64_of (by omega) (by omega)]
    refine hk _ ?_
    rw [acc_word, set_fill (by simpa using hus) (by omega)] at h
    have e : us.map wv ++ [wv (word (m.drop (64 * q)) i)] = (us ++ [word (m.drop (64 * q)) i]).map wv := by simp
    rw [← e]
    exact h
theorem r_late (h : sat E w H) {i : Nat} (hi : i < 64) (h16 : 16 ≤ i) {b3 : Nat} {e : TypeId} {us : List UInt32} (hus : us.length = i)
    [own : Own H b3 (.cells (us.map wv ++ List.replicate (64 - i) (wv 0)).toArray e (0, 0)) R] {k : List Value → World → Prop}
    (hk : ∀ w, sat E w (pts b3 (.cells ((us ++ [wNext us i]).map wv ++ List.replicate (64 - (i + 1)) (wv 0)).toArray e (0, 0)) * R) → k [.int .i64 ((i + 1 : Nat) : Int)] w) :
                dr w fun w =>
                pvv prog (binOp .sub 3 (.int .i64 i) (.int .i64 15)) w fun t_58 w =>
                pvv prog (Instr.indexAt 102 (.slice (some ⟨b3, 0, none⟩) 64 64) t_58) w fun t_59 w =>
                pvv prog (binOp .sub 3 (.int .i64 i) (.int .i64 2)) w fun t_60 w =>
                pvv prog (Instr.indexAt 102 (.slice (some ⟨b3, 0, none⟩) 64 64) t_60) w fun t_61 w =>
                bindS (vN (Instr.loadAt 101 t_59)) fun m_63 => ldv prog (Instr.loadAt 101 t_59) w fun t_62 w =>
                bindS (vN (Instr.loadAt 101 t_61)) fun m_65 => ldv prog (Instr.loadAt 101 t_61) w fun t_64 w =>
                dr w fun w =>
                pvv prog (binOp .sub 3 (.int .i64 i) (.int .i64 16)) w fun t_66 w =>
                pvv prog (Instr.indexAt 102 (.slice (some ⟨b3, 0, none⟩) 64 64) t_66) w fun t_67 w =>
                pvv prog (binOp .shr 101 t_62 (.int .u64 3)) w fun t_68 w =>
                pvv prog (binOp .sub 3 (.int .i64 i) (.int .i64 7)) w fun t_69 w =>
                pvv prog (Instr.indexAt 102 (.slice (some ⟨b3, 0, none⟩) 64 64) t_69) w fun t_70 w =>
                pvv prog (binOp .shr 101 t_64 (.int .u64 10)) w fun t_71 w =>
                bindS (vN (Instr.loadAt 101 t_67)) fun m_73 => ldv prog (Instr.loadAt 101 t_67) w fun t_72 w =>
                bindS (vN (Instr.loadAt 101 t_70)) fun m_75 => ldv prog (Instr.loadAt 101 t_70) w fun t_74 w =>
                Calls prog 66 #[t_62, (.int .i64 7)] w (Ret fun t_76 w => stay prog none m_75 t_74 w <| stay prog none m_73 t_72 w <| 
                Calls prog 66 #[t_62, (.int .i64 18)] w (Ret fun t_77 w => stay prog none m_75 t_74 w <| stay prog none m_73 t_72 w <| 
                pvv prog (binOp .xor 101 t_76 t_77) w fun t_78 w =>
                pvv prog (binOp .xor 101 t_78 t_68) w fun t_79 w =>
                pvv prog (binOp .add 101 t_72 t_79) w fun t_80 w =>
                pvv prog (binOp .add 101 t_80 t_74) w fun t_81 w =>
                Calls prog 66 #[t_64, (.int .i64 17)] w (Ret fun t_82 w => stay prog none m_75 t_74 w <| stay prog none m_73 t_72 w <| 
                Calls prog 66 #[t_64, (.int .i64 19)] w (Ret fun t_83 w => stay prog none m_75 t_74 w <| stay prog none m_73 t_72 w <| 
                pvv prog (binOp .xor 101 t_82 t_83) w fun t_84 w =>
                pvv prog (binOp .xor 101 t_84 t_71) w fun t_85 w =>
                pvv prog (binOp .add 101 t_81 t_85) w fun t_86 w =>
                pvv prog (Instr.indexAt 102 (.slice (some ⟨b3, 0, none⟩) 64 64) (.int .i64 i)) w fun t_87 w =>
                efu prog (Instr.storeAt 101 t_87 t_86) w fun u_88 w =>
                pvv prog (binOp .add 3 (.int .i64 i) (.int .i64 1)) w fun t_89 w =>
                k [t_89] w)))) := by
  have e15 : IntKind.i64.wrap ((i : Int) - 15) = ((i - 15 : Nat) : Int) := by rw [i64_of (by omega) (by omega)]; omega
  have e2 : IntKind.i64.wrap ((i : Int) - 2) = ((i - 2 : Nat) : Int) := by rw [i64_of (by omega) (by omega)]; omega
  have e16 : IntKind.i64.wrap ((i : Int) - 16) = ((i - 16 : Nat) : Int) := by rw [i64_of (by omega) (by omega)]; omega
  have e7 : IntKind.i64.wrap ((i : Int) - 7) = ((i - 7 : Nat) : Int) := by rw [i64_of (by omega) (by omega)]; omega
  have ix : ∀ {j : Nat}, j < 64 → ∀ {w : World} {K : Value → World → Prop}, pvv prog (Instr.indexAt 102 (.slice (some ⟨b3, 0, none⟩) 64 64) (.int .i64 (j : Int))) w K = K (.pointer (some ⟨b3, j, none⟩)) w := fun {j} hj {w K} => by
    rw [o_index (by omega) (by omega)]; simp
  have h := h.own b3
  have gw : ∀ {j : Nat}, j < i → (us.map wv ++ List.replicate (64 - i) (wv 0))[j]? = some (wv (us.getD j 0)) := fun hj => getwv (by omega)
  refine dr_sl h fun w h _ => ?_
  simp only [e15, e2, ↓o_nil, ↓o_field, ↓o_add, ↓o_sub, ↓o_mul, ↓o_lss, ↓o_leq, ↓o_gtr, ↓o_geq, ↓o_not, ↓o_pick, ↓o_eqInt, ↓o_neInt, ↓o_eqBool, ↓o_neBool, ↓o_eqPtr, ↓o_nePtr, ↓o_eqPtr', ↓o_eqSl, ↓o_neSl, ↓o_eqStr, ↓o_neStr, ↓o_len, ↓o_lenS, ↓o_min, ↓o_max, ↓o_extract, ↓o_convInt, ↓cd_true, ↓cd_false, ↓gate_tt, ↓gate_ff, ↓gate_tf, ↓gate_ft, ↓gate_undef, ↓o_bind, ↓stay_v, ↓pop_cons, ↓fin_nil, Option.isNone_none, Option.isNone_some, Bool.not_true, Bool.not_false, Nat.zero_add, decide_true, decide_false, if_true, if_false, Bool.false_eq_true, ↓reduceIte, ix (j := i - 15) (by omega), ix (j := i - 2) (by omega)]
  refine ld_in h (gw (by omega)) (ld_in h (gw (by omega)) ?_)
  refine dr_sl h fun w h _ => ?_
  simp only [e16, e7, ↓o_nil, ↓o_field, ↓o_add, ↓o_sub, ↓o_mul, ↓o_lss, ↓o_leq, ↓o_gtr, ↓o_geq, ↓o_not, ↓o_pick, ↓o_eqInt, ↓o_neInt, ↓o_eqBool, ↓o_neBool, ↓o_eqPtr, ↓o_nePtr, ↓o_eqPtr', ↓o_eqSl, ↓o_neSl, ↓o_eqStr, ↓o_neStr, ↓o_len, ↓o_lenS, ↓o_min, ↓o_max, ↓o_extract, ↓o_convInt, ↓cd_true, ↓cd_false, ↓gate_tt, ↓gate_ff, ↓gate_tf, ↓gate_ft, ↓gate_undef, ↓o_bind, ↓stay_v, ↓pop_cons, ↓fin_nil, Option.isNone_none, Option.isNone_some, Bool.not_true, Bool.not_false, Nat.zero_add, decide_true, decide_false, if_true, if_false, Bool.false_eq_true, ↓reduceIte, ix (j := i - 16) (by omega), ix (j := i - 7) (by omega)]
  rw [o_shrW' (by decide) (by decide)]
  try simp only [e16, e7, ↓o_nil, ↓o_field, ↓o_add, ↓o_sub, ↓o_mul, ↓o_lss, ↓o_leq, ↓o_gtr, ↓o_geq, ↓o_not, ↓o_pick, ↓o_eqInt, ↓o_neInt, ↓o_eqBool, ↓o_neBool, ↓o_eqPtr, ↓o_nePtr, ↓o_eqPtr', ↓o_eqSl, ↓o_neSl, ↓o_eqStr, ↓o_neStr, ↓o_len, ↓o_lenS, ↓o_min, ↓o_max, ↓o_extract, ↓o_convInt, ↓cd_true, ↓cd_false, ↓gate_tt, ↓gate_ff, ↓gate_tf, ↓gate_ft, ↓gate_undef, ↓o_bind, ↓stay_v, ↓pop_cons, ↓fin_nil, Option.isNone_none, Option.isNone_some, Bool.not_true, Bool.not_false, Nat.zero_add, decide_true, decide_false, if_true, if_false, Bool.false_eq_true, ↓reduceIte, ix (j := i - 16) (by omega), ix (j := i - 7) (by omega)]
  rw [o_shrW' (by decide) (by decide)]
  refine ld_in h (gw (by omega)) (ld_in h (gw (by omega)) ?_)
  refine turn_spec h _ (n := 7) (by decide) (by decide) fun w h => ?_
  try simp only [stay_v]
  refine st_in h (gw (by omega)) (st_in h (gw (by omega)) ?_)
  refine turn_spec h _ (n := 18) (by decide) (by decide) fun w h => ?_
  try simp only [stay_v]
  refine st_in h (gw (by omega)) (st_in h (gw (by omega)) ?_)
  rw [o_xorW, o_xorW, o_addW, o_addW]
  refine turn_spec h _ (n := 17) (by decide) (by decide) fun w h => ?_
  try simp only [stay_v]
  refine st_in h (gw (by omega)) (st_in h (gw (by omega)) ?_)
  refine turn_spec h _ (n := 19) (by decide) (by decide) fun w h => ?_
  try simp only [stay_v]
  refine st_in h (gw (by omega)) (st_in h (gw (by omega)) ?_)
  rw [o_xorW, o_xorW, o_addW, ix hi]
  refine store_sl h rfl (by simp [hus]; omega) fun w h => ?_
  try rw [o_add]
  rw [i64_of (by omega) (by omega)]
  refine hk _ ?_
  rw [set_fill (by simpa using hus) (by omega)] at h
  have e : us.map wv ++ [wv (wNext us i)] = (us ++ [wNext us i]).map wv := by simp
  rw [← e]
  exact h
theorem build8 {a b c d e f g h : UInt32} : ∀ w, (Instr.buildSlice 102 8 #[(0, wv a), (1, wv b), (2, wv c), (3, wv d), (4, wv e), (5, wv f), (6, wv g), (7, wv h)]).run prog w = .ok (.slice (some ⟨w.heap.size, 0, none⟩) 8 8) (w.alloc (.cells #[wv a, wv b, wv c, wv d, wv e, wv f, wv g, wv h] 101 (0, 0))) := fun w => by kernel_rfl
theorem r_round {i : Nat} (hi : i < 64) {b3 bk bq cq : Nat} {e1 e2 e3 : TypeId} {fr1 fr2 : Nat × Nat} {ks ws : List UInt32} (hks : ks.length = 64) (hws : ws.length = 64) {v : St} {sp : List Value}
    (h : sat E w (pts bq (.cells (v.list.map wv ++ sp).toArray e3 (0, 0)) * R)) [hb3 : Has R b3 (.cells (ws.map wv).toArray e1 fr1)] [hbk : Has R bk (.cells (ks.map wv).toArray e2 fr2)] {k : List Value → World → Prop}
    (hk : ∀ w bq', sat E w (pts bq' (.cells ((round (ks.getD i 0) (ws.getD i 0) v).list.map wv).toArray 101 (0, 0)) * R) → k [.slice (some ⟨bq', 0, none⟩) 8 8, .int .i64 ((i + 1 : Nat) : Int)] w) :
                  dr w fun w =>
                  pvv prog (Instr.indexAt 102 (.slice (some ⟨bq, 0, none⟩) 8 cq) (.int .i64 4)) w fun t_100 w =>
                  pvv prog (Instr.indexAt 102 (.slice (some ⟨bq, 0, none⟩) 8 cq) (.int .i64 4)) w fun t_101 w =>
                  pvv prog (Instr.indexAt 102 (.slice (some ⟨bq, 0, none⟩) 8 cq) (.int .i64 4)) w fun t_102 w =>
                  bindS (vN (Instr.loadAt 101 t_100)) fun m_104 => ldv prog (Instr.loadAt 101 t_100) w fun t_103 w =>
                  bindS (vN (Instr.loadAt 101 t_101)) fun m_106 => ldv prog (Instr.loadAt 101 t_101) w fun t_105 w =>
                  bindS (vN (Instr.loadAt 101 t_102)) fun m_108 => ldv prog (Instr.loadAt 101 t_102) w fun t_107 w =>
                  Calls prog 66 #[t_103, (.int .i64 6)] w (Ret fun t_109 w => stay prog none m_108 t_107 w <| stay prog none m_106 t_105 w <| 
                  Calls prog 66 #[t_105, (.int .i64 11)] w (Ret fun t_110 w => stay prog none m_108 t_107 w <| stay prog none m_104 t_103 w <| 
                  pvv prog (binOp .xor 101 t_109 t_110) w fun t_111 w =>
                  Calls prog 66 #[t_107, (.int .i64 25)] w (Ret fun t_112 w => stay prog none m_106 t_105 w <| stay prog none m_104 t_103 w <| 
                  pvv prog (binOp .xor 101 t_111 t_112) w fun t_113 w =>
                  dr w fun w =>
                  pvv prog (Instr.indexAt 102 (.slice (some ⟨bq, 0, none⟩) 8 cq) (.int .i64 4)) w fun t_114 w =>
                  pvv prog (Instr.indexAt 102 (.slice (some ⟨bq, 0, none⟩) 8 cq) (.int .i64 5)) w fun t_115 w =>
                  pvv prog (Instr.indexAt 102 (.slice (some ⟨bq, 0, none⟩) 8 cq) (.int .i64 4)) w fun t_116 w =>
                  pvv prog (Instr.indexAt 102 (.slice (some ⟨bq, 0, none⟩) 8 cq) (.int .i64 6)) w fun t_117 w =>
                  bindS (vN (Instr.loadAt 101 t_114)) fun m_119 => ldv prog (Instr.loadAt 101 t_114) w fun t_118 w =>
                  bindS (vN (Instr.loadAt 101 t_115)) fun m_121 => ldv prog (Instr.loadAt 101 t_115) w fun t_120 w =>
                  pvv prog (binOp .and 101 t_118 t_120) w fun t_122 w =>
                  bindS (vN (Instr.loadAt 101 t_116)) fun m_124 => ldv prog (Instr.loadAt 101 t_116) w fun t_123 w =>
                  pvv prog (Op.unary .xor t_123) w fun t_125 w =>
                  bindS (vN (Instr.loadAt 101 t_117)) fun m_127 => ldv prog (Instr.loadAt 101 t_117) w fun t_126 w =>
                  pvv prog (binOp .and 101 t_125 t_126) w fun t_128 w =>
                  pvv prog (binOp .xor 101 t_122 t_128) w fun t_129 w =>
                  dr w fun w =>
                  pvv prog (Instr.indexAt 102 (.slice (some ⟨bq, 0, none⟩) 8 cq) (.int .i64 7)) w fun t_130 w =>
                  pvv prog (Instr.indexAt 102 (.slice (some ⟨bk, 0, none⟩) 64 64) (.int .i64 i)) w fun t_131 w =>
                  pvv prog (Instr.indexAt 102 (.slice (some ⟨b3, 0, none⟩) 64 64) (.int .i64 i)) w fun t_132 w =>
                  bindS (vN (Instr.loadAt 101 t_130)) fun m_134 => ldv prog (Instr.loadAt 101 t_130) w fun t_133 w =>
                  pvv prog (binOp .add 101 t_133 t_113) w fun t_135 w =>
                  pvv prog (binOp .add 101 t_135 t_129) w fun t_136 w =>
                  bindS (vN (Instr.loadAt 101 t_131)) fun m_138 => ldv prog (Instr.loadAt 101 t_131) w fun t_137 w =>
                  pvv prog (binOp .add 101 t_136 t_137) w fun t_139 w =>
                  bindS (vN (Instr.loadAt 101 t_132)) fun m_141 => ldv prog (Instr.loadAt 101 t_132) w fun t_140 w =>
                  pvv prog (binOp .add 101 t_139 t_140) w fun t_142 w =>
                  dr w fun w =>
                  pvv prog (Instr.indexAt 102 (.slice (some ⟨bq, 0, none⟩) 8 cq) (.int .i64 0)) w fun t_143 w =>
                  pvv prog (Instr.indexAt 102 (.slice (some ⟨bq, 0, none⟩) 8 cq) (.int .i64 0)) w fun t_144 w =>
                  pvv prog (Instr.indexAt 102 (.slice (some ⟨bq, 0, none⟩) 8 cq) (.int .i64 0)) w fun t_145 w =>
                  bindS (vN (Instr.loadAt 101 t_143)) fun m_147 => ldv prog (Instr.loadAt 101 t_143) w fun t_146 w =>
                  bindS (vN (Instr.loadAt 101 t_144)) fun m_149 => ldv prog (Instr.loadAt 101 t_144) w fun t_148 w =>
                  bindS (vN (Instr.loadAt 101 t_145)) fun m_151 => ldv prog (Instr.loadAt 101 t_145) w fun t_150 w =>
                  Calls prog 66 #[t_146, (.int .i64 2)] w (Ret fun t_152 w => stay prog none m_151 t_150 w <| stay prog none m_149 t_148 w <| 
                  Calls prog 66 #[t_148, (.int .i64 13)] w (Ret fun t_153 w => stay prog none m_151 t_150 w <| stay prog none m_147 t_146 w <| 
                  pvv prog (binOp .xor 101 t_152 t_153) w fun t_154 w =>
                  Calls prog 66 #[t_150, (.int .i64 22)] w (Ret fun t_155 w => stay prog none m_149 t_148 w <| stay prog none m_147 t_146 w <| 
                  pvv prog (binOp .xor 101 t_154 t_155) w fun t_156 w =>
                  dr w fun w =>
                  pvv prog (Instr.indexAt 102 (.slice (some ⟨bq, 0, none⟩) 8 cq) (.int .i64 0)) w fun t_157 w =>
                  pvv prog (Instr.indexAt 102 (.slice (some ⟨bq, 0, none⟩) 8 cq) (.int .i64 1)) w fun t_158 w =>
                  pvv prog (Instr.indexAt 102 (.slice (some ⟨bq, 0, none⟩) 8 cq) (.int .i64 0)) w fun t_159 w =>
                  pvv prog (Instr.indexAt 102 (.slice (some ⟨bq, 0, none⟩) 8 cq) (.int .i64 2)) w fun t_160 w =>
                  pvv prog (Instr.indexAt 102 (.slice (some ⟨bq, 0, none⟩) 8 cq) (.int .i64 1)) w fun t_161 w =>
                  pvv prog (Instr.indexAt 102 (.slice (some ⟨bq, 0, none⟩) 8 cq) (.int .i64 2)) w fun t_162 w =>
                  bindS (vN (Instr.loadAt 101 t_157)) fun m_164 => ldv prog (Instr.loadAt 101 t_157) w fun t_163 w =>
                  bindS (vN (Instr.loadAt 101 t_158)) fun m_166 => ldv prog (Instr.loadAt 101 t_158) w fun t_165 w =>
                  pvv prog (binOp .and 101 t_163 t_165) w fun t_167 w =>
                  bindS (vN (Instr.loadAt 101 t_159)) fun m_169 => ldv prog (Instr.loadAt 101 t_159) w fun t_168 w =>
                  bindS (vN (Instr.loadAt 101 t_160)) fun m_171 => ldv prog (Instr.loadAt 101 t_160) w fun t_170 w =>
                  pvv prog (binOp .and 101 t_168 t_170) w fun t_172 w =>
                  pvv prog (binOp .xor 101 t_167 t_172) w fun t_173 w =>
                  bindS (vN (Instr.loadAt 101 t_161)) fun m_175 => ldv prog (Instr.loadAt 101 t_161) w fun t_174 w =>
                  bindS (vN (Instr.loadAt 101 t_162)) fun m_177 => ldv prog (Instr.loadAt 101 t_162) w fun t_176 w =>
                  pvv prog (binOp .and 101 t_174 t_176) w fun t_178 w =>
                  pvv prog (binOp .xor 101 t_173 t_178) w fun t_179 w =>
                  dr w fun w =>
                  pvv prog (binOp .add 101 t_142 t_156) w fun t_180 w =>
                  pvv prog (binOp .add 101 t_180 t_179) w fun t_181 w =>
                  pvv prog (Instr.indexAt 102 (.slice (some ⟨bq, 0, none⟩) 8 cq) (.int .i64 0)) w fun t_182 w =>
                  pvv prog (Instr.indexAt 102 (.slice (some ⟨bq, 0, none⟩) 8 cq) (.int .i64 1)) w fun t_183 w =>
                  pvv prog (Instr.indexAt 102 (.slice (some ⟨bq, 0, none⟩) 8 cq) (.int .i64 2)) w fun t_184 w =>
                  pvv prog (Instr.indexAt 102 (.slice (some ⟨bq, 0, none⟩) 8 cq) (.int .i64 3)) w fun t_185 w =>
                  pvv prog (Instr.indexAt 102 (.slice (some ⟨bq, 0, none⟩) 8 cq) (.int .i64 4)) w fun t_186 w =>
                  pvv prog (Instr.indexAt 102 (.slice (some ⟨bq, 0, none⟩) 8 cq) (.int .i64 5)) w fun t_187 w =>
                  pvv prog (Instr.indexAt 102 (.slice (some ⟨bq, 0, none⟩) 8 cq) (.int .i64 6)) w fun t_188 w =>
                  bindS (vN (Instr.loadAt 101 t_182)) fun m_190 => ldv prog (Instr.loadAt 101 t_182) w fun t_189 w =>
                  bindS (vN (Instr.loadAt 101 t_183)) fun m_192 => ldv prog (Instr.loadAt 101 t_183) w fun t_191 w =>
                  bindS (vN (Instr.loadAt 101 t_184)) fun m_194 => ldv prog (Instr.loadAt 101 t_184) w fun t_193 w =>
                  bindS (vN (Instr.loadAt 101 t_185)) fun m_196 => ldv prog (Instr.loadAt 101 t_185) w fun t_195 w =>
                  pvv prog (binOp .add 101 t_195 t_142) w fun t_197 w =>
                  bindS (vN (Instr.loadAt 101 t_186)) fun m_199 => ldv prog (Instr.loadAt 101 t_186) w fun t_198 w =>
                  bindS (vN (Instr.loadAt 101 t_187)) fun m_201 => ldv prog (Instr.loadAt 101 t_187) w fun t_200 w =>
                  bindS (vN (Instr.loadAt 101 t_188)) fun m_203 => ldv prog (Instr.loadAt 101 t_188) w fun t_202 w =>
                  efv prog (Instr.buildSlice 102 8 #[(0, t_181), (1, t_189), (2, t_191), (3, t_193), (4, t_197), (5, t_198), (6, t_200), (7, t_202)]) w fun t_204 w => stay prog none m_196 t_195 w <| 
                  pvv prog (binOp .add 3 (.int .i64 i) (.int .i64 1)) w fun t_205 w =>
                  k [t_204, t_205] w)))))) := by
  have ix : ∀ {j : Nat}, j < 64 → ∀ {b : Nat} {w : World} {K : Value → World → Prop}, pvv prog (Instr.indexAt 102 (.slice (some ⟨b, 0, none⟩) 64 64) (.int .i64 (j : Int))) w K = K (.pointer (some ⟨b, j, none⟩)) w := fun {j} hj {b w K} => by
    rw [o_index (by omega) (by omega)]; simp
  have i0 : ∀ {w : World} {K : Value → World → Prop}, pvv prog (Instr.indexAt 102 (.slice (some ⟨bq, 0, none⟩) 8 cq) (.int .i64 0)) w K = K (.pointer (some ⟨bq, 0, none⟩)) w := o_index (x := 0) (l := 8) (n := 1) (by decide) (by decide)
  have i1 : ∀ {w : World} {K : Value → World → Prop}, pvv prog (Instr.indexAt 102 (.slice (some ⟨bq, 0, none⟩) 8 cq) (.int .i64 1)) w K = K (.pointer (some ⟨bq, 1, none⟩)) w := o_index (x := 1) (l := 8) (n := 1) (by decide) (by decide)
  have i2 : ∀ {w : World} {K : Value → World → Prop}, pvv prog (Instr.indexAt 102 (.slice (some ⟨bq, 0, none⟩) 8 cq) (.int .i64 2)) w K = K (.pointer (some ⟨bq, 2, none⟩)) w := o_index (x := 2) (l := 8) (n := 1) (by decide) (by decide)
  have i3 : ∀ {w : World} {K : Value → World → Prop}, pvv prog (Instr.indexAt 102 (.slice (some ⟨bq, 0, none⟩) 8 cq) (.int .i64 3)) w K = K (.pointer (some ⟨bq, 3, none⟩)) w := o_index (x := 3) (l := 8) (n := 1) (by decide) (by decide)
  have i4 : ∀ {w : World} {K : Value → World → Prop}, pvv prog (Instr.indexAt 102 (.slice (some ⟨bq, 0, none⟩) 8 cq) (.int .i64 4)) w K = K (.pointer (some ⟨bq, 4, none⟩)) w := o_index (x := 4) (l := 8) (n := 1) (by decide) (by decide)
  have i5 : ∀ {w : World} {K : Value → World → Prop}, pvv prog (Instr.indexAt 102 (.slice (some ⟨bq, 0, none⟩) 8 cq) (.int .i64 5)) w K = K (.pointer (some ⟨bq, 5, none⟩)) w := o_index (x := 5) (l := 8) (n := 1) (by decide) (by decide)
  have i6 : ∀ {w : World} {K : Value → World → Prop}, pvv prog (Instr.indexAt 102 (.slice (some ⟨bq, 0, none⟩) 8 cq) (.int .i64 6)) w K = K (.pointer (some ⟨bq, 6, none⟩)) w := o_index (x := 6) (l := 8) (n := 1) (by decide) (by decide)
  have i7 : ∀ {w : World} {K : Value → World → Prop}, pvv prog (Instr.indexAt 102 (.slice (some ⟨bq, 0, none⟩) 8 cq) (.int .i64 7)) w K = K (.pointer (some ⟨bq, 7, none⟩)) w := o_index (x := 7) (l := 8) (n := 1) (by decide) (by decide)
  have h : sat E w (pts bq (.cells (wv v.a :: wv v.b :: wv v.c :: wv v.d :: wv v.e :: wv v.f :: wv v.g :: wv v.h :: sp).toArray e3 (0, 0)) * R) := h
  refine dr_sl h fun w h _ => ?_
  simp only [↓o_nil, ↓o_field, ↓o_add, ↓o_sub, ↓o_mul, ↓o_lss, ↓o_leq, ↓o_gtr, ↓o_geq, ↓o_not, ↓o_pick, ↓o_eqInt, ↓o_neInt, ↓o_eqBool, ↓o_neBool, ↓o_eqPtr, ↓o_nePtr, ↓o_eqPtr', ↓o_eqSl, ↓o_neSl, ↓o_eqStr, ↓o_neStr, ↓o_len, ↓o_lenS, ↓o_min, ↓o_max, ↓o_extract, ↓o_convInt, ↓cd_true, ↓cd_false, ↓gate_tt, ↓gate_ff, ↓gate_tf, ↓gate_ft, ↓gate_undef, ↓o_bind, ↓stay_v, ↓pop_cons, ↓fin_nil, Option.isNone_none, Option.isNone_some, Bool.not_true, Bool.not_false, Nat.zero_add, decide_true, decide_false, if_true, if_false, Bool.false_eq_true, ↓reduceIte, i4]
  refine ld_at h (ld_at h (ld_at h ?_))
  refine turn_spec h _ (n := 6) (by decide) (by decide) fun w h => ?_
  try simp only [stay_v]
  refine st_at h (st_at h ?_)
  refine turn_spec h _ (n := 11) (by decide) (by decide) fun w h => ?_
  try simp only [stay_v]
  refine st_at h (st_at h ?_)
  rw [o_xorW]
  refine turn_spec h _ (n := 25) (by decide) (by decide) fun w h => ?_
  try simp only [stay_v]
  refine st_at h (st_at h ?_)
  rw [o_xorW]
  refine dr_sl h fun w h _ => ?_
  simp only [↓o_nil, ↓o_field, ↓o_add, ↓o_sub, ↓o_mul, ↓o_lss, ↓o_leq, ↓o_gtr, ↓o_geq, ↓o_not, ↓o_pick, ↓o_eqInt, ↓o_neInt, ↓o_eqBool, ↓o_neBool, ↓o_eqPtr, ↓o_nePtr, ↓o_eqPtr', ↓o_eqSl, ↓o_neSl, ↓o_eqStr, ↓o_neStr, ↓o_len, ↓o_lenS, ↓o_min, ↓o_max, ↓o_extract, ↓o_convInt, ↓cd_true, ↓cd_false, ↓gate_tt, ↓gate_ff, ↓gate_tf, ↓gate_ft, ↓gate_undef, ↓o_bind, ↓stay_v, ↓pop_cons, ↓fin_nil, Option.isNone_none, Option.isNone_some, Bool.not_true, Bool.not_false, Nat.zero_add, decide_true, decide_false, if_true, if_false, Bool.false_eq_true, ↓reduceIte, i0, i1, i2, i3, i4, i5, i6, i7, ix hi]
  refine ld_at h (ld_at h ?_)
  rw [o_andW]
  refine ld_at h ?_
  rw [o_notW]
  refine ld_at h ?_
  rw [o_andW, o_xorW]
  refine dr_sl h fun w h _ => ?_
  try simp only [↓o_nil, ↓o_field, ↓o_add, ↓o_sub, ↓o_mul, ↓o_lss, ↓o_leq, ↓o_gtr, ↓o_geq, ↓o_not, ↓o_pick, ↓o_eqInt, ↓o_neInt, ↓o_eqBool, ↓o_neBool, ↓o_eqPtr, ↓o_nePtr, ↓o_eqPtr', ↓o_eqSl, ↓o_neSl, ↓o_eqStr, ↓o_neStr, ↓o_len, ↓o_lenS, ↓o_min, ↓o_max, ↓o_extract, ↓o_convInt, ↓cd_true, ↓cd_false, ↓gate_tt, ↓gate_ff, ↓gate_tf, ↓gate_ft, ↓gate_undef, ↓o_bind, ↓stay_v, ↓pop_cons, ↓fin_nil, Option.isNone_none, Option.isNone_some, Bool.not_true, Bool.not_false, Nat.zero_add, decide_true, decide_false, if_true, if_false, Bool.false_eq_true, ↓reduceIte, i0, i1, i2, i3, i4, i5, i6, i7, ix hi]
  refine ld_at h ?_
  rw [o_addW, o_addW]
  refine ld_in (b := bk) h (getwv' (by omega)) ?_
  rw [o_addW]
  refine ld_in (b := b3) h (getwv' (by omega)) ?_
  rw [o_addW]
  refine dr_sl h fun w h _ => ?_
  try simp only [↓o_nil, ↓o_field, ↓o_add, ↓o_sub, ↓o_mul, ↓o_lss, ↓o_leq, ↓o_gtr, ↓o_geq, ↓o_not, ↓o_pick, ↓o_eqInt, ↓o_neInt, ↓o_eqBool, ↓o_neBool, ↓o_eqPtr, ↓o_nePtr, ↓o_eqPtr', ↓o_eqSl, ↓o_neSl, ↓o_eqStr, ↓o_neStr, ↓o_len, ↓o_lenS, ↓o_min, ↓o_max, ↓o_extract, ↓o_convInt, ↓cd_true, ↓cd_false, ↓gate_tt, ↓gate_ff, ↓gate_tf, ↓gate_ft, ↓gate_undef, ↓o_bind, ↓stay_v, ↓pop_cons, ↓fin_nil, Option.isNone_none, Option.isNone_some, Bool.not_true, Bool.not_false, Nat.zero_add, decide_true, decide_false, if_true, if_false, Bool.false_eq_true, ↓reduceIte, i0, i1, i2, i3, i4, i5, i6, i7]
  refine ld_at h (ld_at h (ld_at h ?_))
  refine turn_spec h _ (n := 2) (by decide) (by decide) fun w h => ?_
  try simp only [stay_v]
  refine st_at h (st_at h ?_)
  refine turn_spec h _ (n := 13) (by decide) (by decide) fun w h => ?_
  try simp only [stay_v]
  refine st_at h (st_at h ?_)
  rw [o_xorW]
  refine turn_spec h _ (n := 22) (by decide) (by decide) fun w h => ?_
  try simp only [stay_v]
  refine st_at h (st_at h ?_)
  rw [o_xorW]
  refine dr_sl h fun w h _ => ?_
  try simp only [↓o_nil, ↓o_field, ↓o_add, ↓o_sub, ↓o_mul, ↓o_lss, ↓o_leq, ↓o_gtr, ↓o_geq, ↓o_not, ↓o_pick, ↓o_eqInt, ↓o_neInt, ↓o_eqBool, ↓o_neBool, ↓o_eqPtr, ↓o_nePtr, ↓o_eqPtr', ↓o_eqSl, ↓o_neSl, ↓o_eqStr, ↓o_neStr, ↓o_len, ↓o_lenS, ↓o_min, ↓o_max, ↓o_extract, ↓o_convInt, ↓cd_true, ↓cd_false, ↓gate_tt, ↓gate_ff, ↓gate_tf, ↓gate_ft, ↓gate_undef, ↓o_bind, ↓stay_v, ↓pop_cons, ↓fin_nil, Option.isNone_none, Option.isNone_some, Bool.not_true, Bool.not_false, Nat.zero_add, decide_true, decide_false, if_true, if_false, Bool.false_eq_true, ↓reduceIte, i0, i1, i2, i3, i4, i5, i6, i7]
  refine ld_at h (ld_at h ?_)
  rw [o_andW]
  refine ld_at h (ld_at h ?_)
  rw [o_andW, o_xorW]
  refine ld_at h (ld_at h ?_)
  rw [o_andW, o_xorW]
  refine dr_sl h fun w h _ => ?_
  rw [o_addW, o_addW]
  try simp only [↓o_nil, ↓o_field, ↓o_add, ↓o_sub, ↓o_mul, ↓o_lss, ↓o_leq, ↓o_gtr, ↓o_geq, ↓o_not, ↓o_pick, ↓o_eqInt, ↓o_neInt, ↓o_eqBool, ↓o_neBool, ↓o_eqPtr, ↓o_nePtr, ↓o_eqPtr', ↓o_eqSl, ↓o_neSl, ↓o_eqStr, ↓o_neStr, ↓o_len, ↓o_lenS, ↓o_min, ↓o_max, ↓o_extract, ↓o_convInt, ↓cd_true, ↓cd_false, ↓gate_tt, ↓gate_ff, ↓gate_tf, ↓gate_ft, ↓gate_undef, ↓o_bind, ↓stay_v, ↓pop_cons, ↓fin_nil, Option.isNone_none, Option.isNone_some, Bool.not_true, Bool.not_false, Nat.zero_add, decide_true, decide_false, if_true, if_false, Bool.false_eq_true, ↓reduceIte, i0, i1, i2, i3, i4, i5, i6, i7]
  refine ld_at h (ld_at h (ld_at h (ld_at h ?_)))
  rw [o_addW]
  refine ld_at h (ld_at h (ld_at h ?_))
  refine buildSlice_sl (e := 101) h build8 fun b1 w h => ?_
  try simp only [stay_v]
  refine st_at h ?_
  try rw [o_add]
  rw [i64_of (by omega) (by omega)]
  refine hk _ _ ?_
  have h := h.lose bq
  simp only [round, tOf, uOf, big0, big1, St.list, List.map_cons, List.map_nil]
  rw [← ch_eq, ← maj_eq, ← UInt32.add_assoc]
  exact h
end Go.Proofs.YtjeiojibnmfibaaDoor

/-
  The reference's SHA-256, whole.
-/
set_option linter.all false
set_option maxRecDepth 10000
namespace Go.Proofs.YtjeiojibnmfibaaDoor
open Go Hold
variable {E : World0} {w : World} {H R : HP} {K : Value → World → Prop}
theorem o_quo {P : Program} {t : TypeId} {k : IntKind} {a b : Int} {K : Value → World → Prop} (hb : b ≠ 0) : pvv P (binOp .quo t (.int k a) (.int k b)) w K = K (.int k (k.wrap (a.tdiv b))) w := pvv_eq fun _ => by simp [binOp, Op.intDiv, hb]
theorem shr0 (x : UInt32) : x >>> UInt32.ofNat 0 = x := by
  apply UInt32.toNat_inj.1
  rw [UInt32.toNat_shiftRight]
  simp
theorem digest_get (st : St) : ∀ i, i < 32 → (digest st)[i]? = some ((st.list.getD (i / 4) 0) >>> UInt32.ofNat (24 - 8 * (i % 4))).toUInt8
  | 0, _ => rfl
  | 1, _ => rfl
  | 2, _ => rfl
  | 3, _ => congrArg (fun x : UInt32 => some x.toUInt8) (shr0 st.a).symm
  | 4, _ => rfl
  | 5, _ => rfl
  | 6, _ => rfl
  | 7, _ => congrArg (fun x : UInt32 => some x.toUInt8) (shr0 st.b).symm
  | 8, _ => rfl
  | 9, _ => rfl
  | 10, _ => rfl
  | 11, _ => congrArg (fun x : UInt32 => some x.toUInt8) (shr0 st.c).symm
  | 12, _ => rfl
  | 13, _ => rfl
  | 14, _ => rfl
  | 15, _ => congrArg (fun x : UInt32 => some x.toUInt8) (shr0 st.d).symm
  | 16, _ => rfl
  | 17, _ => rfl
  | 18, _ => rfl
  | 19, _ => congrArg (fun x : UInt32 => some x.toUInt8) (shr0 st.e).symm
  | 20, _ => rfl
  | 21, _ => rfl
  | 22, _ => rfl
  | 23, _ => congrArg (fun x : UInt32 => some x.toUInt8) (shr0 st.f).symm
  | 24, _ => rfl
  | 25, _ => rfl
  | 26, _ => rfl
  | 27, _ => congrArg (fun x : UInt32 => some x.toUInt8) (shr0 st.g).symm
  | 28, _ => rfl
  | 29, _ => rfl
  | 30, _ => rfl
  | 31, _ => congrArg (fun x : UInt32 => some x.toUInt8) (shr0 st.h).symm
  | n + 32, h => by omega
theorem r_out {bh bo : Nat} {st : St} (h : sat E w (pts bh (.cells (st.list.map wv).toArray 101 (0, 0)) * (pts bo (.cells (List.replicate 32 (bv 0)).toArray 36 (0, 0)) * H)))
    (k : ∀ w', sat E w' H → K (.agg ((digest st).map bv).toArray) w') :
        efv prog (Instr.alloc 36 true (.tuple #[])) w fun out_228 w =>
        lp (fun σ w again_230 => pop σ fun i_229 σ => fin σ <|
          pvv prog (binOp .lss 3 i_229 (.int .i64 32)) w fun t_231 w =>
          cd t_231 (
            pvv prog (binOp .quo 3 i_229 (.int .i64 4)) w fun t_232 w =>
            pvv prog (Instr.indexAt 102 (.slice (some ⟨bh, 0, none⟩) 8 8) t_232) w fun t_233 w =>
            ldv prog (Instr.loadAt 101 t_233) w fun t_234 w =>
            pvv prog (binOp .rem 3 i_229 (.int .i64 4)) w fun t_235 w =>
            pvv prog (binOp .mul 3 (.int .i64 8) t_235) w fun t_236 w =>
            pvv prog (binOp .sub 3 (.int .i64 24) t_236) w fun t_237 w =>
            pvv prog (binOp .shr 101 t_234 t_237) w fun t_238 w =>
            pvv prog (convert 101 5 t_238) w fun t_239 w =>
            pvv prog (Instr.indexAt 36 out_228 i_229) w fun t_240 w =>
            efu prog (Instr.storeAt 5 t_240 t_239) w fun u_241 w =>
            pvv prog (binOp .add 3 i_229 (.int .i64 1)) w fun t_242 w =>
            again_230 [t_242] w) <|
          ldv prog (Instr.loadAt 36 out_228) w fun t_243 w =>
          efu prog (Instr.storeAt 36 (.pointer (some ⟨bo, 0, none⟩)) t_243) w fun u_244 w =>
          ∃ r_245, (do loadVar 36 (← asAddr (.pointer (some ⟨bo, 0, none⟩)))).run prog w = .ok r_245 w ∧ K r_245 w) [(.int .i64 0)] w := by
  refine alloc_sl h fun b5 w h => ?_
  have h : sat E w (pts b5 (.cells (List.replicate 32 (bv 0)).toArray 36 (0, 0)) * (pts bh (.cells (st.list.map wv).toArray 101 (0, 0)) * (pts bo (.cells (List.replicate 32 (bv 0)).toArray 36 (0, 0)) * H))) := h
  have hdl : ((digest st).map bv).length = 32 := by rw [List.length_map, digest_length]
  refine lp_nat (fun m σ w => ∃ i : Nat, σ = [.int .i64 i] ∧ m = 32 - i ∧ i ≤ 32 ∧
    sat E w (pts b5 (.cells (((digest st).map bv).take i ++ (List.replicate 32 (bv 0)).drop i).toArray 36 (0, 0)) * (pts bh (.cells (st.list.map wv).toArray 101 (0, 0)) * (pts bo (.cells (List.replicate 32 (bv 0)).toArray 36 (0, 0)) * H)))) 32 ⟨0, rfl, rfl, by omega, h⟩ ?_
  rintro m σ w again ⟨i, rfl, rfl, hi, h⟩ hag
  rw [pop_cons, fin_nil, o_lss]
  refine cd_dec (fun hlt => ?_) (fun hge => ?_)
  · have hlt : i < 32 := by omega
    have e0 : IntKind.i64.wrap ((i : Int).tdiv 4) = ((i / 4 : Nat) : Int) := by
      rw [Int.tdiv_eq_ediv_of_nonneg (by omega), i64_of (by omega) (by omega)]; omega
    have e1 : (i : Int).tmod 4 = ((i % 4 : Nat) : Int) := by
      rw [Int.tmod_eq_emod_of_nonneg (by omega)]; omega
    have e2 : IntKind.i64.wrap (8 * ((i % 4 : Nat) : Int)) = ((8 * (i % 4) : Nat) : Int) := by rw [i64_of (by omega) (by omega)]; omega
    have e3 : IntKind.i64.wrap (24 - ((8 * (i % 4) : Nat) : Int)) = ((24 - 8 * (i % 4) : Nat) : Int) := by rw [i64_of (by omega) (by omega)]; omega
    rw [o_quo (by decide), e0, o_index (by omega) (by omega)]
    refine ld_in (b := bh) (o := 0 + ((i / 4 : Nat) : Int).toNat * 1) (v := wv (st.list.getD (i / 4) 0)) h (by
      have e : 0 + ((i / 4 : Nat) : Int).toNat * 1 = i / 4 := by rw [Int.toNat_natCast]; omega
      rw [e]; exact getwv' (by rw [St.len]; omega)) ?_
    rw [o_rem (by decide), e1, o_mul, e2, o_sub, e3, o_shrW (by omega), o_convWB, o_indexA (by omega) (by omega)]
    refine store_sl (b := b5) (o := 0 + (i : Int).toNat) h rfl (by simp [digest_length]; omega) fun w h => ?_
    rw [o_add, i64_of (by omega) (by omega)]
    refine hag (32 - (i + 1)) _ _ (by omega) ⟨i + 1, rfl, rfl, by omega, ?_⟩
    have e4 : (((digest st).map bv).take i ++ (List.replicate 32 (bv 0)).drop i).set (0 + (i : Int).toNat) (bv ((st.list.getD (i / 4) 0) >>> UInt32.ofNat (24 - 8 * (i % 4))).toUInt8) = ((digest st).map bv).take (i + 1) ++ (List.replicate 32 (bv 0)).drop (i + 1) := by
      rw [Nat.zero_add, Int.toNat_natCast]
      refine take_drop_set hdl (by simp) hlt ?_
      rw [List.getElem?_map, digest_get st i hlt]
      rfl
    rw [e4] at h
    exact h
  · have hi8 : i = 32 := by omega
    subst hi8
    have h : sat E w (pts b5 (.cells ((digest st).map bv).toArray 36 (0, 0)) * (pts bh (.cells (st.list.map wv).toArray 101 (0, 0)) * (pts bo (.cells (List.replicate 32 (bv 0)).toArray 36 (0, 0)) * H))) := by
      have e : ((digest st).map bv).take 32 ++ (List.replicate 32 (bv 0)).drop 32 = (digest st).map bv := by
        rw [List.take_of_length_le (by rw [hdl]; omega)]; simp
      rw [e] at h; exact h
    refine ld_agg (b := b5) h hdl ?_
    refine storeN_sl (b := bo) h (aggC_36).size (vs := (digest st).map bv) (by simp [Value.cells]) hdl (bv_one _) (by simp) fun w h => ?_
    have h : sat E w (pts bo (.cells ((digest st).map bv).toArray 36 (0, 0)) * (pts b5 (.cells ((digest st).map bv).toArray 36 (0, 0)) * (pts bh (.cells (st.list.map wv).toArray 101 (0, 0)) * H))) := by
      have e : (List.replicate 32 (bv 0)).take 0 ++ (digest st).map bv ++ (List.replicate 32 (bv 0)).drop (0 + 32) = (digest st).map bv := by simp
      rw [e] at h; exact h
    exact res_agg (b := bo) h hdl (k _ h.drop.drop.drop)
theorem r_block {q bh bk bm om cm : Nat} {ek : TypeId} {frk : Nat × Nat} {st : St} {m : List UInt8} (hq : 64 * q + 64 ≤ m.length) (hml : m.length ≤ 140737488355328)
    (h : sat E w (pts bh (.cells (st.list.map wv).toArray 101 (0, 0)) * H)) [hbk : Has H bk (.cells (K0.map wv).toArray ek frk)] (hm : Rds H (.slice (some ⟨bm, om, none⟩) m.length cm) m.length (m.map bv)) {k : List Value → World → Prop}
    (hk : ∀ w, sat E w (pts bh (.cells ((mix K0 st (m.drop (64 * q))).list.map wv).toArray 101 (0, 0)) * H) → k [.int .i64 ((64 * (q + 1) : Nat) : Int)] w) :
          efv prog (Instr.makeSlice 102 (.int .i64 64) (.int .i64 64)) w fun t_31 w =>
          lp (fun σ w again_33 => pop σ fun i_32 σ => fin σ <|
            pvv prog (binOp .lss 3 i_32 (.int .i64 16)) w fun t_34 w =>
            cd t_34 (
              lp (fun σ w again_36 => pop σ fun j_35 σ => fin σ <|
                pvv prog (binOp .lss 3 j_35 (.int .i64 4)) w fun t_37 w =>
                cd t_37 (
                  dr w fun w =>
                  pvv prog (Instr.indexAt 102 t_31 i_32) w fun t_38 w =>
                  pvv prog (binOp .mul 3 (.int .i64 4) i_32) w fun t_39 w =>
                  pvv prog (binOp .add 3 (.int .i64 ((64 * q : Nat) : Int)) t_39) w fun t_40 w =>
                  pvv prog (binOp .add 3 t_40 j_35) w fun t_41 w =>
                  pvv prog (Instr.indexAt 72 (.slice (some ⟨bm, om, none⟩) m.length cm) t_41) w fun t_42 w =>
                  bindS (vN (Instr.loadAt 101 t_38)) fun m_44 => ldv prog (Instr.loadAt 101 t_38) w fun t_43 w =>
                  pvv prog (binOp .shl 101 t_43 (.int .u64 8)) w fun t_45 w =>
                  bindS (vN (Instr.loadAt 5 t_42)) fun m_47 => ldv prog (Instr.loadAt 5 t_42) w fun t_46 w =>
                  pvv prog (convert 5 101 t_46) w fun t_48 w =>
                  pvv prog (binOp .or 101 t_45 t_48) w fun t_49 w =>
                  pvv prog (Instr.indexAt 102 t_31 i_32) w fun t_50 w =>
                  efu prog (Instr.storeAt 101 t_50 t_49) w fun u_51 w =>
                  pvv prog (binOp .add 3 j_35 (.int .i64 1)) w fun t_52 w =>
                  again_36 [t_52] w) <|
                pvv prog (binOp .add 3 i_32 (.int .i64 1)) w fun t_54 w =>
                again_33 [t_54] w) [(.int .i64 0)] w) <|
            lp (fun σ w again_56 => pop σ fun i_55 σ => fin σ <|
              pvv prog (binOp .lss 3 i_55 (.int .i64 64)) w fun t_57 w =>
              cd t_57 (
                dr w fun w =>
                pvv prog (binOp .sub 3 i_55 (.int .i64 15)) w fun t_58 w =>
                pvv prog (Instr.indexAt 102 t_31 t_58) w fun t_59 w =>
                pvv prog (binOp .sub 3 i_55 (.int .i64 2)) w fun t_60 w =>
                pvv prog (Instr.indexAt 102 t_31 t_60) w fun t_61 w =>
                bindS (vN (Instr.loadAt 101 t_59)) fun m_63 => ldv prog (Instr.loadAt 101 t_59) w fun t_62 w =>
                bindS (vN (Instr.loadAt 101 t_61)) fun m_65 => ldv prog (Instr.loadAt 101 t_61) w fun t_64 w =>
                dr w fun w =>
                pvv prog (binOp .sub 3 i_55 (.int .i64 16)) w fun t_66 w =>
                pvv prog (Instr.indexAt 102 t_31 t_66) w fun t_67 w =>
                pvv prog (binOp .shr 101 t_62 (.int .u64 3)) w fun t_68 w =>
                pvv prog (binOp .sub 3 i_55 (.int .i64 7)) w fun t_69 w =>
                pvv prog (Instr.indexAt 102 t_31 t_69) w fun t_70 w =>
                pvv prog (binOp .shr 101 t_64 (.int .u64 10)) w fun t_71 w =>
                bindS (vN (Instr.loadAt 101 t_67)) fun m_73 => ldv prog (Instr.loadAt 101 t_67) w fun t_72 w =>
                bindS (vN (Instr.loadAt 101 t_70)) fun m_75 => ldv prog (Instr.loadAt 101 t_70) w fun t_74 w =>
                Calls prog 66 #[t_62, (.int .i64 7)] w (Ret fun t_76 w => stay prog none m_75 t_74 w <| stay prog none m_73 t_72 w <| 
                Calls prog 66 #[t_62, (.int .i64 18)] w (Ret fun t_77 w => stay prog none m_75 t_74 w <| stay prog none m_73 t_72 w <| 
                pvv prog (binOp .xor 101 t_76 t_77) w fun t_78 w =>
                pvv prog (binOp .xor 101 t_78 t_68) w fun t_79 w =>
                pvv prog (binOp .add 101 t_72 t_79) w fun t_80 w =>
                pvv prog (binOp .add 101 t_80 t_74) w fun t_81 w =>
                Calls prog 66 #[t_64, (.int .i64 17)] w (Ret fun t_82 w => stay prog none m_75 t_74 w <| stay prog none m_73 t_72 w <| 
                Calls prog 66 #[t_64, (.int .i64 19)] w (Ret fun t_83 w => stay prog none m_75 t_74 w <| stay prog none m_73 t_72 w <| 
                pvv prog (binOp .xor 101 t_82 t_83) w fun t_84 w =>
                pvv prog (binOp .xor 101 t_84 t_71) w fun t_85 w =>
                pvv prog (binOp .add 101 t_81 t_85) w fun t_86 w =>
                pvv prog (Instr.indexAt 102 t_31 i_55) w fun t_87 w =>
                efu prog (Instr.storeAt 101 t_87 t_86) w fun u_88 w =>
                pvv prog (binOp .add 3 i_55 (.int .i64 1)) w fun t_89 w =>
                again_56 [t_89] w))))) <|
              ef prog (oBi .append #[102, 102] 102 #[false, false] #[(.slice none 0 0), (.slice (some ⟨bh, 0, none⟩) 8 8)]) w fun t_95 w =>
              lp (fun σ w again_98 => pop σ fun v_96 σ => pop σ fun i_97 σ => fin σ <|
                pvv prog (binOp .lss 3 i_97 (.int .i64 64)) w fun t_99 w =>
                cd t_99 (
                  dr w fun w =>
                  pvv prog (Instr.indexAt 102 v_96 (.int .i64 4)) w fun t_100 w =>
                  pvv prog (Instr.indexAt 102 v_96 (.int .i64 4)) w fun t_101 w =>
                  pvv prog (Instr.indexAt 102 v_96 (.int .i64 4)) w fun t_102 w =>
                  bindS (vN (Instr.loadAt 101 t_100)) fun m_104 => ldv prog (Instr.loadAt 101 t_100) w fun t_103 w =>
                  bindS (vN (Instr.loadAt 101 t_101)) fun m_106 => ldv prog (Instr.loadAt 101 t_101) w fun t_105 w =>
                  bindS (vN (Instr.loadAt 101 t_102)) fun m_108 => ldv prog (Instr.loadAt 101 t_102) w fun t_107 w =>
                  Calls prog 66 #[t_103, (.int .i64 6)] w (Ret fun t_109 w => stay prog none m_108 t_107 w <| stay prog none m_106 t_105 w <| 
                  Calls prog 66 #[t_105, (.int .i64 11)] w (Ret fun t_110 w => stay prog none m_108 t_107 w <| stay prog none m_104 t_103 w <| 
                  pvv prog (binOp .xor 101 t_109 t_110) w fun t_111 w =>
                  Calls prog 66 #[t_107, (.int .i64 25)] w (Ret fun t_112 w => stay prog none m_106 t_105 w <| stay prog none m_104 t_103 w <| 
                  pvv prog (binOp .xor 101 t_111 t_112) w fun t_113 w =>
                  dr w fun w =>
                  pvv prog (Instr.indexAt 102 v_96 (.int .i64 4)) w fun t_114 w =>
                  pvv prog (Instr.indexAt 102 v_96 (.int .i64 5)) w fun t_115 w =>
                  pvv prog (Instr.indexAt 102 v_96 (.int .i64 4)) w fun t_116 w =>
                  pvv prog (Instr.indexAt 102 v_96 (.int .i64 6)) w fun t_117 w =>
                  bindS (vN (Instr.loadAt 101 t_114)) fun m_119 => ldv prog (Instr.loadAt 101 t_114) w fun t_118 w =>
                  bindS (vN (Instr.loadAt 101 t_115)) fun m_121 => ldv prog (Instr.loadAt 101 t_115) w fun t_120 w =>
                  pvv prog (binOp .and 101 t_118 t_120) w fun t_122 w =>
                  bindS (vN (Instr.loadAt 101 t_116)) fun m_124 => ldv prog (Instr.loadAt 101 t_116) w fun t_123 w =>
                  pvv prog (Op.unary .xor t_123) w fun t_125 w =>
                  bindS (vN (Instr.loadAt 101 t_117)) fun m_127 => ldv prog (Instr.loadAt 101 t_117) w fun t_126 w =>
                  pvv prog (binOp .and 101 t_125 t_126) w fun t_128 w =>
                  pvv prog (binOp .xor 101 t_122 t_128) w fun t_129 w =>
                  dr w fun w =>
                  pvv prog (Instr.indexAt 102 v_96 (.int .i64 7)) w fun t_130 w =>
                  pvv prog (Instr.indexAt 102 (.slice (some ⟨bk, 0, none⟩) 64 64) i_97) w fun t_131 w =>
                  pvv prog (Instr.indexAt 102 t_31 i_97) w fun t_132 w =>
                  bindS (vN (Instr.loadAt 101 t_130)) fun m_134 => ldv prog (Instr.loadAt 101 t_130) w fun t_133 w =>
                  pvv prog (binOp .add 101 t_133 t_113) w fun t_135 w =>
                  pvv prog (binOp .add 101 t_135 t_129) w fun t_136 w =>
                  bindS (vN (Instr.loadAt 101 t_131)) fun m_138 => ldv prog (Instr.loadAt 101 t_131) w fun t_137 w =>
                  pvv prog (binOp .add 101 t_136 t_137) w fun t_139 w =>
                  bindS (vN (Instr.loadAt 101 t_132)) fun m_141 => ldv prog (Instr.loadAt 101 t_132) w fun t_140 w =>
                  pvv prog (binOp .add 101 t_139 t_140) w fun t_142 w =>
                  dr w fun w =>
                  pvv prog (Instr.indexAt 102 v_96 (.int .i64 0)) w fun t_143 w =>
                  pvv prog (Instr.indexAt 102 v_96 (.int .i64 0)) w fun t_144 w =>
                  pvv prog (Instr.indexAt 102 v_96 (.int .i64 0)) w fun t_145 w =>
                  bindS (vN (Instr.loadAt 101 t_143)) fun m_147 => ldv prog (Instr.loadAt 101 t_143) w fun t_146 w =>
                  bindS (vN (Instr.loadAt 101 t_144)) fun m_149 => ldv prog (Instr.loadAt 101 t_144) w fun t_148 w =>
                  bindS (vN (Instr.loadAt 101 t_145)) fun m_151 => ldv prog (Instr.loadAt 101 t_145) w fun t_150 w =>
                  Calls prog 66 #[t_146, (.int .i64 2)] w (Ret fun t_152 w => stay prog none m_151 t_150 w <| stay prog none m_149 t_148 w <| 
                  Calls prog 66 #[t_148, (.int .i64 13)] w (Ret fun t_153 w => stay prog none m_151 t_150 w <| stay prog none m_147 t_146 w <| 
                  pvv prog (binOp .xor 101 t_152 t_153) w fun t_154 w =>
                  Calls prog 66 #[t_150, (.int .i64 22)] w (Ret fun t_155 w => stay prog none m_149 t_148 w <| stay prog none m_147 t_146 w <| 
                  pvv prog (binOp .xor 101 t_154 t_155) w fun t_156 w =>
                  dr w fun w =>
                  pvv prog (Instr.indexAt 102 v_96 (.int .i64 0)) w fun t_157 w =>
                  pvv prog (Instr.indexAt 102 v_96 (.int .i64 1)) w fun t_158 w =>
                  pvv prog (Instr.indexAt 102 v_96 (.int .i64 0)) w fun t_159 w =>
                  pvv prog (Instr.indexAt 102 v_96 (.int .i64 2)) w fun t_160 w =>
                  pvv prog (Instr.indexAt 102 v_96 (.int .i64 1)) w fun t_161 w =>
                  pvv prog (Instr.indexAt 102 v_96 (.int .i64 2)) w fun t_162 w =>
                  bindS (vN (Instr.loadAt 101 t_157)) fun m_164 => ldv prog (Instr.loadAt 101 t_157) w fun t_163 w =>
                  bindS (vN (Instr.loadAt 101 t_158)) fun m_166 => ldv prog (Instr.loadAt 101 t_158) w fun t_165 w =>
                  pvv prog (binOp .and 101 t_163 t_165) w fun t_167 w =>
                  bindS (vN (Instr.loadAt 101 t_159)) fun m_169 => ldv prog (Instr.loadAt 101 t_159) w fun t_168 w =>
                  bindS (vN (Instr.loadAt 101 t_160)) fun m_171 => ldv prog (Instr.loadAt 101 t_160) w fun t_170 w =>
                  pvv prog (binOp .and 101 t_168 t_170) w fun t_172 w =>
                  pvv prog (binOp .xor 101 t_167 t_172) w fun t_173 w =>
                  bindS (vN (Instr.loadAt 101 t_161)) fun m_175 => ldv prog (Instr.loadAt 101 t_161) w fun t_174 w =>
                  bindS (vN (Instr.loadAt 101 t_162)) fun m_177 => ldv prog (Instr.loadAt 101 t_162) w fun t_176 w =>
                  pvv prog (binOp .and 101 t_174 t_176) w fun t_178 w =>
                  pvv prog (binOp .xor 101 t_173 t_178) w fun t_179 w =>
                  dr w fun w =>
                  pvv prog (binOp .add 101 t_142 t_156) w fun t_180 w =>
                  pvv prog (binOp .add 101 t_180 t_179) w fun t_181 w =>
                  pvv prog (Instr.indexAt 102 v_96 (.int .i64 0)) w fun t_182 w =>
                  pvv prog (Instr.indexAt 102 v_96 (.int .i64 1)) w fun t_183 w =>
                  pvv prog (Instr.indexAt 102 v_96 (.int .i64 2)) w fun t_184 w =>
                  pvv prog (Instr.indexAt 102 v_96 (.int .i64 3)) w fun t_185 w =>
                  pvv prog (Instr.indexAt 102 v_96 (.int .i64 4)) w fun t_186 w =>
                  pvv prog (Instr.indexAt 102 v_96 (.int .i64 5)) w fun t_187 w =>
                  pvv prog (Instr.indexAt 102 v_96 (.int .i64 6)) w fun t_188 w =>
                  bindS (vN (Instr.loadAt 101 t_182)) fun m_190 => ldv prog (Instr.loadAt 101 t_182) w fun t_189 w =>
                  bindS (vN (Instr.loadAt 101 t_183)) fun m_192 => ldv prog (Instr.loadAt 101 t_183) w fun t_191 w =>
                  bindS (vN (Instr.loadAt 101 t_184)) fun m_194 => ldv prog (Instr.loadAt 101 t_184) w fun t_193 w =>
                  bindS (vN (Instr.loadAt 101 t_185)) fun m_196 => ldv prog (Instr.loadAt 101 t_185) w fun t_195 w =>
                  pvv prog (binOp .add 101 t_195 t_142) w fun t_197 w =>
                  bindS (vN (Instr.loadAt 101 t_186)) fun m_199 => ldv prog (Instr.loadAt 101 t_186) w fun t_198 w =>
                  bindS (vN (Instr.loadAt 101 t_187)) fun m_201 => ldv prog (Instr.loadAt 101 t_187) w fun t_200 w =>
                  bindS (vN (Instr.loadAt 101 t_188)) fun m_203 => ldv prog (Instr.loadAt 101 t_188) w fun t_202 w =>
                  efv prog (Instr.buildSlice 102 8 #[(0, t_181), (1, t_189), (2, t_191), (3, t_193), (4, t_197), (5, t_198), (6, t_200), (7, t_202)]) w fun t_204 w => stay prog none m_196 t_195 w <| 
                  pvv prog (binOp .add 3 i_97 (.int .i64 1)) w fun t_205 w =>
                  again_98 [t_204, t_205] w))))))) <|
                lp (fun σ w again_214 => pop σ fun i_213 σ => fin σ <|
                  pvv prog (binOp .lss 3 i_213 (.int .i64 8)) w fun t_215 w =>
                  cd t_215 (
                    dr w fun w =>
                    pvv prog (Instr.indexAt 102 (.slice (some ⟨bh, 0, none⟩) 8 8) i_213) w fun t_216 w =>
                    pvv prog (Instr.indexAt 102 v_96 i_213) w fun t_217 w =>
                    bindS (vN (Instr.loadAt 101 t_216)) fun m_219 => ldv prog (Instr.loadAt 101 t_216) w fun t_218 w =>
                    bindS (vN (Instr.loadAt 101 t_217)) fun m_221 => ldv prog (Instr.loadAt 101 t_217) w fun t_220 w =>
                    pvv prog (binOp .add 101 t_218 t_220) w fun t_222 w =>
                    pvv prog (Instr.indexAt 102 (.slice (some ⟨bh, 0, none⟩) 8 8) i_213) w fun t_223 w =>
                    efu prog (Instr.storeAt 101 t_223 t_222) w fun u_224 w =>
                    pvv prog (binOp .add 3 i_213 (.int .i64 1)) w fun t_225 w =>
                    again_214 [t_225] w) <|
                  pvv prog (binOp .add 3 (.int .i64 ((64 * q : Nat) : Int)) (.int .i64 64)) w fun t_227 w =>
                  k [t_227] w) [(.int .i64 0)] w) [t_95, (.int .i64 0)] w) [(.int .i64 16)] w) [(.int .i64 0)] w := by
  refine make_sl h rfl (by decide) (by decide) (by decide) (by decide) fun b3 w h => ?_
  have h : sat E w (pts b3 (.cells (List.replicate 64 (wv 0)).toArray 101 (0, 0)) * (pts bh (.cells (st.list.map wv).toArray 101 (0, 0)) * H)) := h
  generalize hmd : m.drop (64 * q) = md
  refine lp_nat (fun c σ w => ∃ i : Nat, σ = [.int .i64 i] ∧ c = 16 - i ∧ i ≤ 16 ∧
    sat E w (pts b3 (.cells ((sched md i).map wv ++ List.replicate (64 - i) (wv 0)).toArray 101 (0, 0)) * (pts bh (.cells (st.list.map wv).toArray 101 (0, 0)) * H))) 16 ⟨0, rfl, rfl, by omega, h⟩ ?_
  rintro c σ w again ⟨i, rfl, rfl, hi, h⟩ hag
  rw [pop_cons, fin_nil, o_lss]
  refine cd_dec (fun hlt => ?_) (fun hge => ?_)
  · have h16 : i < 16 := by omega
    refine r_word h16 (sched_length md i) hq hml h hm.right fun w h => ?_
    refine hag (16 - (i + 1)) _ _ (by omega) ⟨i + 1, rfl, rfl, by omega, ?_⟩
    have e : sched md (i + 1) = sched md i ++ [word (m.drop (64 * q)) i] := by simp [sched, h16, hmd]
    rw [e]; exact h
  have hi16 : i = 16 := by omega
  subst hi16
  clear hag hge
  refine lp_nat (fun c σ w => ∃ i : Nat, σ = [.int .i64 i] ∧ c = 64 - i ∧ 16 ≤ i ∧ i ≤ 64 ∧
    sat E w (pts b3 (.cells ((sched md i).map wv ++ List.replicate (64 - i) (wv 0)).toArray 101 (0, 0)) * (pts bh (.cells (st.list.map wv).toArray 101 (0, 0)) * H))) 48 ⟨16, rfl, rfl, by omega, by omega, h⟩ ?_
  rintro c σ w again ⟨i, rfl, rfl, hi1, hi, h⟩ hag
  rw [pop_cons, fin_nil, o_lss]
  refine cd_dec (fun hlt => ?_) (fun hge => ?_)
  · refine r_late (b3 := b3) h (by omega) hi1 (sched_length md i) fun w h => ?_
    refine hag (64 - (i + 1)) _ _ (by omega) ⟨i + 1, rfl, rfl, by omega, by omega, ?_⟩
    have h16' : ¬ i < 16 := by omega
    have e : sched md (i + 1) = sched md i ++ [wNext (sched md i) i] := by simp [sched, h16']
    rw [e]; exact h
  have hi64 : i = 64 := by omega
  subst hi64
  clear hag hge
  have h : sat E w (pts b3 (.cells ((sched md 64).map wv).toArray 101 (0, 0)) * (pts bh (.cells (st.list.map wv).toArray 101 (0, 0)) * H)) := by simpa using h
  refine append_sl (osl_nil h 101 1) (st.list.map wv) (by simp [St.len]) (.inr ⟨bh, 0, _, _, _, rfl, Has.get h, fun j u hj => by simpa using hj⟩) (wv_one _) (by decide) (by decide) fun v w h => ?_
  obtain ⟨bq, cq, sp, rfl, _, hcq, h, _⟩ := osl_open h (by decide)
  simp only [List.nil_append, Nat.zero_add] at h hcq ⊢
  refine lp_nat (fun c σ w => ∃ (i bq cq : Nat) (e : TypeId) (sp : List Value), σ = [.slice (some ⟨bq, 0, none⟩) 8 cq, .int .i64 i] ∧ c = 64 - i ∧ i ≤ 64 ∧
    sat E w (pts bq (.cells ((rounds K0 (sched md 64) st i).list.map wv ++ sp).toArray e (0, 0)) * (pts b3 (.cells ((sched md 64).map wv).toArray 101 (0, 0)) * (pts bh (.cells (st.list.map wv).toArray 101 (0, 0)) * H)))) 64 ⟨0, bq, cq, 101, sp, rfl, rfl, by omega, h⟩ ?_
  clear h
  rintro c σ w again ⟨i, bq, cq, e, sp, rfl, rfl, hi, h⟩ hag
  rw [pop_cons, pop_cons, fin_nil, o_lss]
  refine cd_dec (fun hlt => ?_) (fun hge => ?_)
  · refine r_round (by omega) K0_length (sched_length md 64) h fun w bq' h => ?_
    refine hag (64 - (i + 1)) _ _ (by omega) ⟨i + 1, bq', 8, 101, [], rfl, rfl, by omega, ?_⟩
    rw [List.append_nil]
    exact h
  have hi64 : i = 64 := by omega
  subst hi64
  clear hag hge
  have hmix : (mix K0 st md).list = (st.add (rounds K0 (sched md 64) st 64)).list := rfl
  generalize hv : rounds K0 (sched md 64) st 64 = v at h hmix
  refine lp_nat (fun c σ w => ∃ i : Nat, σ = [.int .i64 i] ∧ c = 8 - i ∧ i ≤ 8 ∧
    sat E w (pts bh (.cells (((mix K0 st md).list.take i ++ st.list.drop i).map wv).toArray 101 (0, 0)) * (pts bq (.cells (v.list.map wv ++ sp).toArray e (0, 0)) * (pts b3 (.cells ((sched md 64).map wv).toArray 101 (0, 0)) * H)))) 8 ⟨0, rfl, rfl, by omega, h.own bh⟩ ?_
  clear h
  rintro c σ w again ⟨i, rfl, rfl, hi, h⟩ hag
  rw [pop_cons, fin_nil, o_lss]
  refine cd_dec (fun hlt => ?_) (fun hge => ?_)
  · have hlt : i < 8 := by omega
    have ix : ∀ {b c : Nat} {w : World} {K : Value → World → Prop}, pvv prog (Instr.indexAt 102 (.slice (some ⟨b, 0, none⟩) 8 c) (.int .i64 (i : Int))) w K = K (.pointer (some ⟨b, i, none⟩)) w := fun {b c w K} => by
      rw [o_index (by omega) (by omega)]; simp
    refine dr_sl h fun w h _ => ?_
    simp only [↓o_nil, ↓o_field, ↓o_add, ↓o_sub, ↓o_mul, ↓o_lss, ↓o_leq, ↓o_gtr, ↓o_geq, ↓o_not, ↓o_pick, ↓o_eqInt, ↓o_neInt, ↓o_eqBool, ↓o_neBool, ↓o_eqPtr, ↓o_nePtr, ↓o_eqPtr', ↓o_eqSl, ↓o_neSl, ↓o_eqStr, ↓o_neStr, ↓o_len, ↓o_lenS, ↓o_min, ↓o_max, ↓o_extract, ↓o_convInt, ↓cd_true, ↓cd_false, ↓gate_tt, ↓gate_ff, ↓gate_tf, ↓gate_ft, ↓gate_undef, ↓o_bind, ↓stay_v, ↓pop_cons, ↓fin_nil, Option.isNone_none, Option.isNone_some, Bool.not_true, Bool.not_false, Nat.zero_add, decide_true, decide_false, if_true, if_false, Bool.false_eq_true, ↓reduceIte, ix]
    have g1 : (((mix K0 st md).list.take i ++ st.list.drop i).map wv)[i]? = some (wv (st.list.getD i 0)) := by
      rw [List.getElem?_map, take_drop_get (St.len _) hlt, ← List.getElem?_map]
      exact getwv' (by rw [St.len]; exact hlt)
    refine ld_in (b := bh) h g1 ?_
    refine ld_in (b := bq) h (getwv (by rw [St.len]; exact hlt)) ?_
    rw [o_addW]
    try rw [ix]
    refine store_sl (b := bh) h rfl (by simp [St.len]; omega) fun w h => ?_
    try rw [o_add]
    rw [i64_of (by omega) (by omega)]
    refine hag (8 - (i + 1)) _ _ (by omega) ⟨i + 1, rfl, rfl, by omega, ?_⟩
    have e1 : (mix K0 st md).list.getD i 0 = st.list.getD i 0 + v.list.getD i 0 := by rw [hmix]; exact St.add_get _ _ hlt
    have e2 : (((mix K0 st md).list.take i ++ st.list.drop i).map wv).set i (wv (st.list.getD i 0 + v.list.getD i 0)) = ((mix K0 st md).list.take (i + 1) ++ st.list.drop (i + 1)).map wv := by
      rw [← List.map_set]
      congr 1
      refine take_drop_set (St.len _) (St.len _) hlt ?_
      rw [← e1]
      have hl : i < (mix K0 st md).list.length := by rw [St.len]; exact hlt
      simp [List.getD_eq_getElem?_getD, hl]
    rw [e2] at h
    exact h
  have hi8 : i = 8 := by omega
  subst hi8
  have e1 : (mix K0 st md).list.take 8 ++ st.list.drop 8 = (mix K0 st md).list := rfl
  rw [e1] at h
  rw [o_add, i64_of (by omega) (by omega)]
  refine hk _ ?_
  rw [hmd]
  exact (h.lose bq).lose b3
theorem r_blocks {bh bo bk : Nat} {ek : TypeId} {frk : Nat × Nat} {m : List UInt8} (hm : m.length % 64 = 0) (hml : m.length ≤ 140737488355328) (hpos : 0 < m.length) {st : St}
    {bm om cm : Nat} (h : sat E w (pts bh (.cells (st.list.map wv).toArray 101 (0, 0)) * (pts bo (.cells (List.replicate 32 (bv 0)).toArray 36 (0, 0)) * H))) [hbk : Has H bk (.cells (K0.map wv).toArray ek frk)]
    (hv : Rds H (.slice (some ⟨bm, om, none⟩) m.length cm) m.length (m.map bv))
    (k : ∀ w', sat E w' H → K (.agg ((digest (fold st m (m.length / 64))).map bv).toArray) w') :
      lp (fun σ w again_28 => pop σ fun at_27 σ => fin σ <|
        pv prog (oBi .len #[72] 3 #[false] #[(.slice (some ⟨bm, om, none⟩) m.length cm)]) w fun t_29 w =>
        pvv prog (binOp .lss 3 at_27 t_29) w fun t_30 w =>
        cd t_30 (
          efv prog (Instr.makeSlice 102 (.int .i64 64) (.int .i64 64)) w fun t_31 w =>
          lp (fun σ w again_33 => pop σ fun i_32 σ => fin σ <|
            pvv prog (binOp .lss 3 i_32 (.int .i64 16)) w fun t_34 w =>
            cd t_34 (
              lp (fun σ w again_36 => pop σ fun j_35 σ => fin σ <|
                pvv prog (binOp .lss 3 j_35 (.int .i64 4)) w fun t_37 w =>
                cd t_37 (
                  dr w fun w =>
                  pvv prog (Instr.indexAt 102 t_31 i_32) w fun t_38 w =>
                  pvv prog (binOp .mul 3 (.int .i64 4) i_32) w fun t_39 w =>
                  pvv prog (binOp .add 3 at_27 t_39) w fun t_40 w =>
                  pvv prog (binOp .add 3 t_40 j_35) w fun t_41 w =>
                  pvv prog (Instr.indexAt 72 (.slice (some ⟨bm, om, none⟩) m.length cm) t_41) w fun t_42 w =>
                  bindS (vN (Instr.loadAt 101 t_38)) fun m_44 => ldv prog (Instr.loadAt 101 t_38) w fun t_43 w =>
                  pvv prog (binOp .shl 101 t_43 (.int .u64 8)) w fun t_45 w =>
                  bindS (vN (Instr.loadAt 5 t_42)) fun m_47 => ldv prog (Instr.loadAt 5 t_42) w fun t_46 w =>
                  pvv prog (convert 5 101 t_46) w fun t_48 w =>
                  pvv prog (binOp .or 101 t_45 t_48) w fun t_49 w =>
                  pvv prog (Instr.indexAt 102 t_31 i_32) w fun t_50 w =>
                  efu prog (Instr.storeAt 101 t_50 t_49) w fun u_51 w =>
                  pvv prog (binOp .add 3 j_35 (.int .i64 1)) w fun t_52 w =>
                  again_36 [t_52] w) <|
                pvv prog (binOp .add 3 i_32 (.int .i64 1)) w fun t_54 w =>
                again_33 [t_54] w) [(.int .i64 0)] w) <|
            lp (fun σ w again_56 => pop σ fun i_55 σ => fin σ <|
              pvv prog (binOp .lss 3 i_55 (.int .i64 64)) w fun t_57 w =>
              cd t_57 (
                dr w fun w =>
                pvv prog (binOp .sub 3 i_55 (.int .i64 15)) w fun t_58 w =>
                pvv prog (Instr.indexAt 102 t_31 t_58) w fun t_59 w =>
                pvv prog (binOp .sub 3 i_55 (.int .i64 2)) w fun t_60 w =>
                pvv prog (Instr.indexAt 102 t_31 t_60) w fun t_61 w =>
                bindS (vN (Instr.loadAt 101 t_59)) fun m_63 => ldv prog (Instr.loadAt 101 t_59) w fun t_62 w =>
                bindS (vN (Instr.loadAt 101 t_61)) fun m_65 => ldv prog (Instr.loadAt 101 t_61) w fun t_64 w =>
                dr w fun w =>
                pvv prog (binOp .sub 3 i_55 (.int .i64 16)) w fun t_66 w =>
                pvv prog (Instr.indexAt 102 t_31 t_66) w fun t_67 w =>
                pvv prog (binOp .shr 101 t_62 (.int .u64 3)) w fun t_68 w =>
                pvv prog (binOp .sub 3 i_55 (.int .i64 7)) w fun t_69 w =>
                pvv prog (Instr.indexAt 102 t_31 t_69) w fun t_70 w =>
                pvv prog (binOp .shr 101 t_64 (.int .u64 10)) w fun t_71 w =>
                bindS (vN (Instr.loadAt 101 t_67)) fun m_73 => ldv prog (Instr.loadAt 101 t_67) w fun t_72 w =>
                bindS (vN (Instr.loadAt 101 t_70)) fun m_75 => ldv prog (Instr.loadAt 101 t_70) w fun t_74 w =>
                Calls prog 66 #[t_62, (.int .i64 7)] w (Ret fun t_76 w => stay prog none m_75 t_74 w <| stay prog none m_73 t_72 w <| 
                Calls prog 66 #[t_62, (.int .i64 18)] w (Ret fun t_77 w => stay prog none m_75 t_74 w <| stay prog none m_73 t_72 w <| 
                pvv prog (binOp .xor 101 t_76 t_77) w fun t_78 w =>
                pvv prog (binOp .xor 101 t_78 t_68) w fun t_79 w =>
                pvv prog (binOp .add 101 t_72 t_79) w fun t_80 w =>
                pvv prog (binOp .add 101 t_80 t_74) w fun t_81 w =>
                Calls prog 66 #[t_64, (.int .i64 17)] w (Ret fun t_82 w => stay prog none m_75 t_74 w <| stay prog none m_73 t_72 w <| 
                Calls prog 66 #[t_64, (.int .i64 19)] w (Ret fun t_83 w => stay prog none m_75 t_74 w <| stay prog none m_73 t_72 w <| 
                pvv prog (binOp .xor 101 t_82 t_83) w fun t_84 w =>
                pvv prog (binOp .xor 101 t_84 t_71) w fun t_85 w =>
                pvv prog (binOp .add 101 t_81 t_85) w fun t_86 w =>
                pvv prog (Instr.indexAt 102 t_31 i_55) w fun t_87 w =>
                efu prog (Instr.storeAt 101 t_87 t_86) w fun u_88 w =>
                pvv prog (binOp .add 3 i_55 (.int .i64 1)) w fun t_89 w =>
                again_56 [t_89] w))))) <|
              ef prog (oBi .append #[102, 102] 102 #[false, false] #[(.slice none 0 0), (.slice (some ⟨bh, 0, none⟩) 8 8)]) w fun t_95 w =>
              lp (fun σ w again_98 => pop σ fun v_96 σ => pop σ fun i_97 σ => fin σ <|
                pvv prog (binOp .lss 3 i_97 (.int .i64 64)) w fun t_99 w =>
                cd t_99 (
                  dr w fun w =>
                  pvv prog (Instr.indexAt 102 v_96 (.int .i64 4)) w fun t_100 w =>
                  pvv prog (Instr.indexAt 102 v_96 (.int .i64 4)) w fun t_101 w =>
                  pvv prog (Instr.indexAt 102 v_96 (.int .i64 4)) w fun t_102 w =>
                  bindS (vN (Instr.loadAt 101 t_100)) fun m_104 => ldv prog (Instr.loadAt 101 t_100) w fun t_103 w =>
                  bindS (vN (Instr.loadAt 101 t_101)) fun m_106 => ldv prog (Instr.loadAt 101 t_101) w fun t_105 w =>
                  bindS (vN (Instr.loadAt 101 t_102)) fun m_108 => ldv prog (Instr.loadAt 101 t_102) w fun t_107 w =>
                  Calls prog 66 #[t_103, (.int .i64 6)] w (Ret fun t_109 w => stay prog none m_108 t_107 w <| stay prog none m_106 t_105 w <| 
                  Calls prog 66 #[t_105, (.int .i64 11)] w (Ret fun t_110 w => stay prog none m_108 t_107 w <| stay prog none m_104 t_103 w <| 
                  pvv prog (binOp .xor 101 t_109 t_110) w fun t_111 w =>
                  Calls prog 66 #[t_107, (.int .i64 25)] w (Ret fun t_112 w => stay prog none m_106 t_105 w <| stay prog none m_104 t_103 w <| 
                  pvv prog (binOp .xor 101 t_111 t_112) w fun t_113 w =>
                  dr w fun w =>
                  pvv prog (Instr.indexAt 102 v_96 (.int .i64 4)) w fun t_114 w =>
                  pvv prog (Instr.indexAt 102 v_96 (.int .i64 5)) w fun t_115 w =>
                  pvv prog (Instr.indexAt 102 v_96 (.int .i64 4)) w fun t_116 w =>
                  pvv prog (Instr.indexAt 102 v_96 (.int .i64 6)) w fun t_117 w =>
                  bindS (vN (Instr.loadAt 101 t_114)) fun m_119 => ldv prog (Instr.loadAt 101 t_114) w fun t_118 w =>
                  bindS (vN (Instr.loadAt 101 t_115)) fun m_121 => ldv prog (Instr.loadAt 101 t_115) w fun t_120 w =>
                  pvv prog (binOp .and 101 t_118 t_120) w fun t_122 w =>
                  bindS (vN (Instr.loadAt 101 t_116)) fun m_124 => ldv prog (Instr.loadAt 101 t_116) w fun t_123 w =>
                  pvv prog (Op.unary .xor t_123) w fun t_125 w =>
                  bindS (vN (Instr.loadAt 101 t_117)) fun m_127 => ldv prog (Instr.loadAt 101 t_117) w fun t_126 w =>
                  pvv prog (binOp .and 101 t_125 t_126) w fun t_128 w =>
                  pvv prog (binOp .xor 101 t_122 t_128) w fun t_129 w =>
                  dr w fun w =>
                  pvv prog (Instr.indexAt 102 v_96 (.int .i64 7)) w fun t_130 w =>
                  pvv prog (Instr.indexAt 102 (.slice (some ⟨bk, 0, none⟩) 64 64) i_97) w fun t_131 w =>
                  pvv prog (Instr.indexAt 102 t_31 i_97) w fun t_132 w =>
                  bindS (vN (Instr.loadAt 101 t_130)) fun m_134 => ldv prog (Instr.loadAt 101 t_130) w fun t_133 w =>
                  pvv prog (binOp .add 101 t_133 t_113) w fun t_135 w =>
                  pvv prog (binOp .add 101 t_135 t_129) w fun t_136 w =>
                  bindS (vN (Instr.loadAt 101 t_131)) fun m_138 => ldv prog (Instr.loadAt 101 t_131) w fun t_137 w =>
                  pvv prog (binOp .add 101 t_136 t_137) w fun t_139 w =>
                  bindS (vN (Instr.loadAt 101 t_132)) fun m_141 => ldv prog (Instr.loadAt 101 t_132) w fun t_140 w =>
                  pvv prog (binOp .add 101 t_139 t_140) w fun t_142 w =>
                  dr w fun w =>
                  pvv prog (Instr.indexAt 102 v_96 (.int .i64 0)) w fun t_143 w =>
                  pvv prog (Instr.indexAt 102 v_96 (.int .i64 0)) w fun t_144 w =>
                  pvv prog (Instr.indexAt 102 v_96 (.int .i64 0)) w fun t_145 w =>
                  bindS (vN (Instr.loadAt 101 t_143)) fun m_147 => ldv prog (Instr.loadAt 101 t_143) w fun t_146 w =>
                  bindS (vN (Instr.loadAt 101 t_144)) fun m_149 => ldv prog (Instr.loadAt 101 t_144) w fun t_148 w =>
                  bindS (vN (Instr.loadAt 101 t_145)) fun m_151 => ldv prog (Instr.loadAt 101 t_145) w fun t_150 w =>
                  Calls prog 66 #[t_146, (.int .i64 2)] w (Ret fun t_152 w => stay prog none m_151 t_150 w <| stay prog none m_149 t_148 w <| 
                  Calls prog 66 #[t_148, (.int .i64 13)] w (Ret fun t_153 w => stay prog none m_151 t_150 w <| stay prog none m_147 t_146 w <| 
                  pvv prog (binOp .xor 101 t_152 t_153) w fun t_154 w =>
                  Calls prog 66 #[t_150, (.int .i64 22)] w (Ret fun t_155 w => stay prog none m_149 t_148 w <| stay prog none m_147 t_146 w <| 
                  pvv prog (binOp .xor 101 t_154 t_155) w fun t_156 w =>
                  dr w fun w =>
                  pvv prog (Instr.indexAt 102 v_96 (.int .i64 0)) w fun t_157 w =>
                  pvv prog (Instr.indexAt 102 v_96 (.int .i64 1)) w fun t_158 w =>
                  pvv prog (Instr.indexAt 102 v_96 (.int .i64 0)) w fun t_159 w =>
                  pvv prog (Instr.indexAt 102 v_96 (.int .i64 2)) w fun t_160 w =>
                  pvv prog (Instr.indexAt 102 v_96 (.int .i64 1)) w fun t_161 w =>
                  pvv prog (Instr.indexAt 102 v_96 (.int .i64 2)) w fun t_162 w =>
                  bindS (vN (Instr.loadAt 101 t_157)) fun m_164 => ldv prog (Instr.loadAt 101 t_157) w fun t_163 w =>
                  bindS (vN (Instr.loadAt 101 t_158)) fun m_166 => ldv prog (Instr.loadAt 101 t_158) w fun t_165 w =>
                  pvv prog (binOp .and 101 t_163 t_165) w fun t_167 w =>
                  bindS (vN (Instr.loadAt 101 t_159)) fun m_169 => ldv prog (Instr.loadAt 101 t_159) w fun t_168 w =>
                  bindS (vN (Instr.loadAt 101 t_160)) fun m_171 => ldv prog (Instr.loadAt 101 t_160) w fun t_170 w =>
                  pvv prog (binOp .and 101 t_168 t_170) w fun t_172 w =>
                  pvv prog (binOp .xor 101 t_167 t_172) w fun t_173 w =>
                  bindS (vN (Instr.loadAt 101 t_161)) fun m_175 => ldv prog (Instr.loadAt 101 t_161) w fun t_174 w =>
                  bindS (vN (Instr.loadAt 101 t_162)) fun m_177 => ldv prog (Instr.loadAt 101 t_162) w fun t_176 w =>
                  pvv prog (binOp .and 101 t_174 t_176) w fun t_178 w =>
                  pvv prog (binOp .xor 101 t_173 t_178) w fun t_179 w =>
                  dr w fun w =>
                  pvv prog (binOp .add 101 t_142 t_156) w fun t_180 w =>
                  pvv prog (binOp .add 101 t_180 t_179) w fun t_181 w =>
                  pvv prog (Instr.indexAt 102 v_96 (.int .i64 0)) w fun t_182 w =>
                  pvv prog (Instr.indexAt 102 v_96 (.int .i64 1)) w fun t_183 w =>
                  pvv prog (Instr.indexAt 102 v_96 (.int .i64 2)) w fun t_184 w =>
                  pvv prog (Instr.indexAt 102 v_96 (.int .i64 3)) w fun t_185 w =>
                  pvv prog (Instr.indexAt 102 v_96 (.int .i64 4)) w fun t_186 w =>
                  pvv prog (Instr.indexAt 102 v_96 (.int .i64 5)) w fun t_187 w =>
                  pvv prog (Instr.indexAt 102 v_96 (.int .i64 6)) w fun t_188 w =>
                  bindS (vN (Instr.loadAt 101 t_182)) fun m_190 => ldv prog (Instr.loadAt 101 t_182) w fun t_189 w =>
                  bindS (vN (Instr.loadAt 101 t_183)) fun m_192 => ldv prog (Instr.loadAt 101 t_183) w fun t_191 w =>
                  bindS (vN (Instr.loadAt 101 t_184)) fun m_194 => ldv prog (Instr.loadAt 101 t_184) w fun t_193 w =>
                  bindS (vN (Instr.loadAt 101 t_185)) fun m_196 => ldv prog (Instr.loadAt 101 t_185) w fun t_195 w =>
                  pvv prog (binOp .add 101 t_195 t_142) w fun t_197 w =>
                  bindS (vN (Instr.loadAt 101 t_186)) fun m_199 => ldv prog (Instr.loadAt 101 t_186) w fun t_198 w =>
                  bindS (vN (Instr.loadAt 101 t_187)) fun m_201 => ldv prog (Instr.loadAt 101 t_187) w fun t_200 w =>
                  bindS (vN (Instr.loadAt 101 t_188)) fun m_203 => ldv prog (Instr.loadAt 101 t_188) w fun t_202 w =>
                  efv prog (Instr.buildSlice 102 8 #[(0, t_181), (1, t_189), (2, t_191), (3, t_193), (4, t_197), (5, t_198), (6, t_200), (7, t_202)]) w fun t_204 w => stay prog none m_196 t_195 w <| 
                  pvv prog (binOp .add 3 i_97 (.int .i64 1)) w fun t_205 w =>
                  again_98 [t_204, t_205] w))))))) <|
                lp (fun σ w again_214 => pop σ fun i_213 σ => fin σ <|
                  pvv prog (binOp .lss 3 i_213 (.int .i64 8)) w fun t_215 w =>
                  cd t_215 (
                    dr w fun w =>
                    pvv prog (Instr.indexAt 102 (.slice (some ⟨bh, 0, none⟩) 8 8) i_213) w fun t_216 w =>
                    pvv prog (Instr.indexAt 102 v_96 i_213) w fun t_217 w =>
                    bindS (vN (Instr.loadAt 101 t_216)) fun m_219 => ldv prog (Instr.loadAt 101 t_216) w fun t_218 w =>
                    bindS (vN (Instr.loadAt 101 t_217)) fun m_221 => ldv prog (Instr.loadAt 101 t_217) w fun t_220 w =>
                    pvv prog (binOp .add 101 t_218 t_220) w fun t_222 w =>
                    pvv prog (Instr.indexAt 102 (.slice (some ⟨bh, 0, none⟩) 8 8) i_213) w fun t_223 w =>
                    efu prog (Instr.storeAt 101 t_223 t_222) w fun u_224 w =>
                    pvv prog (binOp .add 3 i_213 (.int .i64 1)) w fun t_225 w =>
                    again_214 [t_225] w) <|
                  pvv prog (binOp .add 3 at_27 (.int .i64 64)) w fun t_227 w =>
                  again_28 [t_227] w) [(.int .i64 0)] w) [t_95, (.int .i64 0)] w) [(.int .i64 16)] w) [(.int .i64 0)] w) <|
        efv prog (Instr.alloc 36 true (.tuple #[])) w fun out_228 w =>
        lp (fun σ w again_230 => pop σ fun i_229 σ => fin σ <|
          pvv prog (binOp .lss 3 i_229 (.int .i64 32)) w fun t_231 w =>
          cd t_231 (
            pvv prog (binOp .quo 3 i_229 (.int .i64 4)) w fun t_232 w =>
            pvv prog (Instr.indexAt 102 (.slice (some ⟨bh, 0, none⟩) 8 8) t_232) w fun t_233 w =>
            ldv prog (Instr.loadAt 101 t_233) w fun t_234 w =>
            pvv prog (binOp .rem 3 i_229 (.int .i64 4)) w fun t_235 w =>
            pvv prog (binOp .mul 3 (.int .i64 8) t_235) w fun t_236 w =>
            pvv prog (binOp .sub 3 (.int .i64 24) t_236) w fun t_237 w =>
            pvv prog (binOp .shr 101 t_234 t_237) w fun t_238 w =>
            pvv prog (convert 101 5 t_238) w fun t_239 w =>
            pvv prog (Instr.indexAt 36 out_228 i_229) w fun t_240 w =>
            efu prog (Instr.storeAt 5 t_240 t_239) w fun u_241 w =>
            pvv prog (binOp .add 3 i_229 (.int .i64 1)) w fun t_242 w =>
            again_230 [t_242] w) <|
          ldv prog (Instr.loadAt 36 out_228) w fun t_243 w =>
          efu prog (Instr.storeAt 36 (.pointer (some ⟨bo, 0, none⟩)) t_243) w fun u_244 w =>
          ∃ r_245, (do loadVar 36 (← asAddr (.pointer (some ⟨bo, 0, none⟩)))).run prog w = .ok r_245 w ∧ K r_245 w) [(.int .i64 0)] w) [(.int .i64 0)] w := by
  refine lp_nat (fun c σ w => ∃ q : Nat, σ = [.int .i64 ((64 * q : Nat) : Int)] ∧ c = m.length - 64 * q ∧ 64 * q ≤ m.length ∧
    sat E w (pts bh (.cells ((fold st m q).list.map wv).toArray 101 (0, 0)) * (pts bo (.cells (List.replicate 32 (bv 0)).toArray 36 (0, 0)) * H))) m.length ⟨0, rfl, rfl, by omega, h⟩ ?_
  clear h
  rintro c σ w again ⟨q, rfl, rfl, hq, h⟩ hag
  rw [pop_cons, fin_nil, o_len, o_lss]
  refine cd_dec (fun hlt => ?_) (fun hge => ?_)
  · refine r_block (by omega) hml h hv.right fun w h => ?_
    exact hag (m.length - 64 * (q + 1)) _ _ (by omega) ⟨q + 1, rfl, rfl, by omega, h⟩
  · have hq2 : q = m.length / 64 := by omega
    subst hq2
    exact r_out h k
theorem r_len {bh bo bk : Nat} {ek : TypeId} {frk : Nat × Nat} {ve : Value} {m : List UInt8} {n N : Nat} {st : St} (hN : n * 8 % 18446744073709551616 = N) (hm : (m.length + 8) % 64 = 0) (hml : m.length + 8 ≤ 140737488355328)
    (h : sat E w (osl 5 1 ve m.length (m.map bv) * (pts bh (.cells (st.list.map wv).toArray 101 (0, 0)) * (pts bo (.cells (List.replicate 32 (bv 0)).toArray 36 (0, 0)) * H)))) [hbk : Has H bk (.cells (K0.map wv).toArray ek frk)]
    (k : ∀ w', sat E w' H → K (.agg ((digest (fold st (m ++ lenBytes n) ((m ++ lenBytes n).length / 64))).map bv).toArray) w') :
    lp (fun σ w again_18 => pop σ fun m_16 σ => pop σ fun i_17 σ => fin σ <|
      pvv prog (binOp .lss 3 i_17 (.int .i64 8)) w fun t_19 w =>
      cd t_19 (
        pvv prog (binOp .mul 3 (.int .i64 8) i_17) w fun t_20 w =>
        pvv prog (binOp .sub 3 (.int .i64 56) t_20) w fun t_21 w =>
        pvv prog (binOp .shr 96 (.int .u64 (N : Int)) t_21) w fun t_22 w =>
        pvv prog (convert 96 5 t_22) w fun t_23 w =>
        efv prog (Instr.buildSlice 72 1 #[(0, t_23)]) w fun t_24 w =>
        ef prog (oBi .append #[72, 72] 72 #[false, false] #[m_16, t_24]) w fun t_25 w =>
        pvv prog (binOp .add 3 i_17 (.int .i64 1)) w fun t_26 w =>
        again_18 [t_25, t_26] w) <|
      lp (fun σ w again_28 => pop σ fun at_27 σ => fin σ <|
        pv prog (oBi .len #[72] 3 #[false] #[m_16]) w fun t_29 w =>
        pvv prog (binOp .lss 3 at_27 t_29) w fun t_30 w =>
        cd t_30 (
          efv prog (Instr.makeSlice 102 (.int .i64 64) (.int .i64 64)) w fun t_31 w =>
          lp (fun σ w again_33 => pop σ fun i_32 σ => fin σ <|
            pvv prog (binOp .lss 3 i_32 (.int .i64 16)) w fun t_34 w =>
            cd t_34 (
              lp (fun σ w again_36 => pop σ fun j_35 σ => fin σ <|
                pvv prog (binOp .lss 3 j_35 (.int .i64 4)) w fun t_37 w =>
                cd t_37 (
                  dr w fun w =>
                  pvv prog (Instr.indexAt 102 t_31 i_32) w fun t_38 w =>
                  pvv prog (binOp .mul 3 (.int .i64 4) i_32) w fun t_39 w =>
                  pvv prog (binOp .add 3 at_27 t_39) w fun t_40 w =>
                  pvv prog (binOp .add 3 t_40 j_35) w fun t_41 w =>
                  pvv prog (Instr.indexAt 72 m_16 t_41) w fun t_42 w =>
                  bindS (vN (Instr.loadAt 101 t_38)) fun m_44 => ldv prog (Instr.loadAt 101 t_38) w fun t_43 w =>
                  pvv prog (binOp .shl 101 t_43 (.int .u64 8)) w fun t_45 w =>
                  bindS (vN (Instr.loadAt 5 t_42)) fun m_47 => ldv prog (Instr.loadAt 5 t_42) w fun t_46 w =>
                  pvv prog (convert 5 101 t_46) w fun t_48 w =>
                  pvv prog (binOp .or 101 t_45 t_48) w fun t_49 w =>
                  pvv prog (Instr.indexAt 102 t_31 i_32) w fun t_50 w =>
                  efu prog (Instr.storeAt 101 t_50 t_49) w fun u_51 w =>
                  pvv prog (binOp .add 3 j_35 (.int .i64 1)) w fun t_52 w =>
                  again_36 [t_52] w) <|
                pvv prog (binOp .add 3 i_32 (.int .i64 1)) w fun t_54 w =>
                again_33 [t_54] w) [(.int .i64 0)] w) <|
            lp (fun σ w again_56 => pop σ fun i_55 σ => fin σ <|
              pvv prog (binOp .lss 3 i_55 (.int .i64 64)) w fun t_57 w =>
              cd t_57 (
                dr w fun w =>
                pvv prog (binOp .sub 3 i_55 (.int .i64 15)) w fun t_58 w =>
                pvv prog (Instr.indexAt 102 t_31 t_58) w fun t_59 w =>
                pvv prog (binOp .sub 3 i_55 (.int .i64 2)) w fun t_60 w =>
                pvv prog (Instr.indexAt 102 t_31 t_60) w fun t_61 w =>
                bindS (vN (Instr.loadAt 101 t_59)) fun m_63 => ldv prog (Instr.loadAt 101 t_59) w fun t_62 w =>
                bindS (vN (Instr.loadAt 101 t_61)) fun m_65 => ldv prog (Instr.loadAt 101 t_61) w fun t_64 w =>
                dr w fun w =>
                pvv prog (binOp .sub 3 i_55 (.int .i64 16)) w fun t_66 w =>
                pvv prog (Instr.indexAt 102 t_31 t_66) w fun t_67 w =>
                pvv prog (binOp .shr 101 t_62 (.int .u64 3)) w fun t_68 w =>
                pvv prog (binOp .sub 3 i_55 (.int .i64 7)) w fun t_69 w =>
                pvv prog (Instr.indexAt 102 t_31 t_69) w fun t_70 w =>
                pvv prog (binOp .shr 101 t_64 (.int .u64 10)) w fun t_71 w =>
                bindS (vN (Instr.loadAt 101 t_67)) fun m_73 => ldv prog (Instr.loadAt 101 t_67) w fun t_72 w =>
                bindS (vN (Instr.loadAt 101 t_70)) fun m_75 => ldv prog (Instr.loadAt 101 t_70) w fun t_74 w =>
                Calls prog 66 #[t_62, (.int .i64 7)] w (Ret fun t_76 w => stay prog none m_75 t_74 w <| stay prog none m_73 t_72 w <| 
                Calls prog 66 #[t_62, (.int .i64 18)] w (Ret fun t_77 w => stay prog none m_75 t_74 w <| stay prog none m_73 t_72 w <| 
                pvv prog (binOp .xor 101 t_76 t_77) w fun t_78 w =>
                pvv prog (binOp .xor 101 t_78 t_68) w fun t_79 w =>
                pvv prog (binOp .add 101 t_72 t_79) w fun t_80 w =>
                pvv prog (binOp .add 101 t_80 t_74) w fun t_81 w =>
                Calls prog 66 #[t_64, (.int .i64 17)] w (Ret fun t_82 w => stay prog none m_75 t_74 w <| stay prog none m_73 t_72 w <| 
                Calls prog 66 #[t_64, (.int .i64 19)] w (Ret fun t_83 w => stay prog none m_75 t_74 w <| stay prog none m_73 t_72 w <| 
                pvv prog (binOp .xor 101 t_82 t_83) w fun t_84 w =>
                pvv prog (binOp .xor 101 t_84 t_71) w fun t_85 w =>
                pvv prog (binOp .add 101 t_81 t_85) w fun t_86 w =>
                pvv prog (Instr.indexAt 102 t_31 i_55) w fun t_87 w =>
                efu prog (Instr.storeAt 101 t_87 t_86) w fun u_88 w =>
                pvv prog (binOp .add 3 i_55 (.int .i64 1)) w fun t_89 w =>
                again_56 [t_89] w))))) <|
              ef prog (oBi .append #[102, 102] 102 #[false, false] #[(.slice none 0 0), (.slice (some ⟨bh, 0, none⟩) 8 8)]) w fun t_95 w =>
              lp (fun σ w again_98 => pop σ fun v_96 σ => pop σ fun i_97 σ => fin σ <|
                pvv prog (binOp .lss 3 i_97 (.int .i64 64)) w fun t_99 w =>
                cd t_99 (
                  dr w fun w =>
                  pvv prog (Instr.indexAt 102 v_96 (.int .i64 4)) w fun t_100 w =>
                  pvv prog (Instr.indexAt 102 v_96 (.int .i64 4)) w fun t_101 w =>
                  pvv prog (Instr.indexAt 102 v_96 (.int .i64 4)) w fun t_102 w =>
                  bindS (vN (Instr.loadAt 101 t_100)) fun m_104 => ldv prog (Instr.loadAt 101 t_100) w fun t_103 w =>
                  bindS (vN (Instr.loadAt 101 t_101)) fun m_106 => ldv prog (Instr.loadAt 101 t_101) w fun t_105 w =>
                  bindS (vN (Instr.loadAt 101 t_102)) fun m_108 => ldv prog (Instr.loadAt 101 t_102) w fun t_107 w =>
                  Calls prog 66 #[t_103, (.int .i64 6)] w (Ret fun t_109 w => stay prog none m_108 t_107 w <| stay prog none m_106 t_105 w <| 
                  Calls prog 66 #[t_105, (.int .i64 11)] w (Ret fun t_110 w => stay prog none m_108 t_107 w <| stay prog none m_104 t_103 w <| 
                  pvv prog (binOp .xor 101 t_109 t_110) w fun t_111 w =>
                  Calls prog 66 #[t_107, (.int .i64 25)] w (Ret fun t_112 w => stay prog none m_106 t_105 w <| stay prog none m_104 t_103 w <| 
                  pvv prog (binOp .xor 101 t_111 t_112) w fun t_113 w =>
                  dr w fun w =>
                  pvv prog (Instr.indexAt 102 v_96 (.int .i64 4)) w fun t_114 w =>
                  pvv prog (Instr.indexAt 102 v_96 (.int .i64 5)) w fun t_115 w =>
                  pvv prog (Instr.indexAt 102 v_96 (.int .i64 4)) w fun t_116 w =>
                  pvv prog (Instr.indexAt 102 v_96 (.int .i64 6)) w fun t_117 w =>
                  bindS (vN (Instr.loadAt 101 t_114)) fun m_119 => ldv prog (Instr.loadAt 101 t_114) w fun t_118 w =>
                  bindS (vN (Instr.loadAt 101 t_115)) fun m_121 => ldv prog (Instr.loadAt 101 t_115) w fun t_120 w =>
                  pvv prog (binOp .and 101 t_118 t_120) w fun t_122 w =>
                  bindS (vN (Instr.loadAt 101 t_116)) fun m_124 => ldv prog (Instr.loadAt 101 t_116) w fun t_123 w =>
                  pvv prog (Op.unary .xor t_123) w fun t_125 w =>
                  bindS (vN (Instr.loadAt 101 t_117)) fun m_127 => ldv prog (Instr.loadAt 101 t_117) w fun t_126 w =>
                  pvv prog (binOp .and 101 t_125 t_126) w fun t_128 w =>
                  pvv prog (binOp .xor 101 t_122 t_128) w fun t_129 w =>
                  dr w fun w =>
                  pvv prog (Instr.indexAt 102 v_96 (.int .i64 7)) w fun t_130 w =>
                  pvv prog (Instr.indexAt 102 (.slice (some ⟨bk, 0, none⟩) 64 64) i_97) w fun t_131 w =>
                  pvv prog (Instr.indexAt 102 t_31 i_97) w fun t_132 w =>
                  bindS (vN (Instr.loadAt 101 t_130)) fun m_134 => ldv prog (Instr.loadAt 101 t_130) w fun t_133 w =>
                  pvv prog (binOp .add 101 t_133 t_113) w fun t_135 w =>
                  pvv prog (binOp .add 101 t_135 t_129) w fun t_136 w =>
                  bindS (vN (Instr.loadAt 101 t_131)) fun m_138 => ldv prog (Instr.loadAt 101 t_131) w fun t_137 w =>
                  pvv prog (binOp .add 101 t_136 t_137) w fun t_139 w =>
                  bindS (vN (Instr.loadAt 101 t_132)) fun m_141 => ldv prog (Instr.loadAt 101 t_132) w fun t_140 w =>
                  pvv prog (binOp .add 101 t_139 t_140) w fun t_142 w =>
                  dr w fun w =>
                  pvv prog (Instr.indexAt 102 v_96 (.int .i64 0)) w fun t_143 w =>
                  pvv prog (Instr.indexAt 102 v_96 (.int .i64 0)) w fun t_144 w =>
                  pvv prog (Instr.indexAt 102 v_96 (.int .i64 0)) w fun t_145 w =>
                  bindS (vN (Instr.loadAt 101 t_143)) fun m_147 => ldv prog (Instr.loadAt 101 t_143) w fun t_146 w =>
                  bindS (vN (Instr.loadAt 101 t_144)) fun m_149 => ldv prog (Instr.loadAt 101 t_144) w fun t_148 w =>
                  bindS (vN (Instr.loadAt 101 t_145)) fun m_151 => ldv prog (Instr.loadAt 101 t_145) w fun t_150 w =>
                  Calls prog 66 #[t_146, (.int .i64 2)] w (Ret fun t_152 w => stay prog none m_151 t_150 w <| stay prog none m_149 t_148 w <| 
                  Calls prog 66 #[t_148, (.int .i64 13)] w (Ret fun t_153 w => stay prog none m_151 t_150 w <| stay prog none m_147 t_146 w <| 
                  pvv prog (binOp .xor 101 t_152 t_153) w fun t_154 w =>
                  Calls prog 66 #[t_150, (.int .i64 22)] w (Ret fun t_155 w => stay prog none m_149 t_148 w <| stay prog none m_147 t_146 w <| 
                  pvv prog (binOp .xor 101 t_154 t_155) w fun t_156 w =>
                  dr w fun w =>
                  pvv prog (Instr.indexAt 102 v_96 (.int .i64 0)) w fun t_157 w =>
                  pvv prog (Instr.indexAt 102 v_96 (.int .i64 1)) w fun t_158 w =>
                  pvv prog (Instr.indexAt 102 v_96 (.int .i64 0)) w fun t_159 w =>
                  pvv prog (Instr.indexAt 102 v_96 (.int .i64 2)) w fun t_160 w =>
                  pvv prog (Instr.indexAt 102 v_96 (.int .i64 1)) w fun t_161 w =>
                  pvv prog (Instr.indexAt 102 v_96 (.int .i64 2)) w fun t_162 w =>
                  bindS (vN (Instr.loadAt 101 t_157)) fun m_164 => ldv prog (Instr.loadAt 101 t_157) w fun t_163 w =>
                  bindS (vN (Instr.loadAt 101 t_158)) fun m_166 => ldv prog (Instr.loadAt 101 t_158) w fun t_165 w =>
                  pvv prog (binOp .and 101 t_163 t_165) w fun t_167 w =>
                  bindS (vN (Instr.loadAt 101 t_159)) fun m_169 => ldv prog (Instr.loadAt 101 t_159) w fun t_168 w =>
                  bindS (vN (Instr.loadAt 101 t_160)) fun m_171 => ldv prog (Instr.loadAt 101 t_160) w fun t_170 w =>
                  pvv prog (binOp .and 101 t_168 t_170) w fun t_172 w =>
                  pvv prog (binOp .xor 101 t_167 t_172) w fun t_173 w =>
                  bindS (vN (Instr.loadAt 101 t_161)) fun m_175 => ldv prog (Instr.loadAt 101 t_161) w fun t_174 w =>
                  bindS (vN (Instr.loadAt 101 t_162)) fun m_177 => ldv prog (Instr.loadAt 101 t_162) w fun t_176 w =>
                  pvv prog (binOp .and 101 t_174 t_176) w fun t_178 w =>
                  pvv prog (binOp .xor 101 t_173 t_178) w fun t_179 w =>
                  dr w fun w =>
                  pvv prog (binOp .add 101 t_142 t_156) w fun t_180 w =>
                  pvv prog (binOp .add 101 t_180 t_179) w fun t_181 w =>
                  pvv prog (Instr.indexAt 102 v_96 (.int .i64 0)) w fun t_182 w =>
                  pvv prog (Instr.indexAt 102 v_96 (.int .i64 1)) w fun t_183 w =>
                  pvv prog (Instr.indexAt 102 v_96 (.int .i64 2)) w fun t_184 w =>
                  pvv prog (Instr.indexAt 102 v_96 (.int .i64 3)) w fun t_185 w =>
                  pvv prog (Instr.indexAt 102 v_96 (.int .i64 4)) w fun t_186 w =>
                  pvv prog (Instr.indexAt 102 v_96 (.int .i64 5)) w fun t_187 w =>
                  pvv prog (Instr.indexAt 102 v_96 (.int .i64 6)) w fun t_188 w =>
                  bindS (vN (Instr.loadAt 101 t_182)) fun m_190 => ldv prog (Instr.loadAt 101 t_182) w fun t_189 w =>
                  bindS (vN (Instr.loadAt 101 t_183)) fun m_192 => ldv prog (Instr.loadAt 101 t_183) w fun t_191 w =>
                  bindS (vN (Instr.loadAt 101 t_184)) fun m_194 => ldv prog (Instr.loadAt 101 t_184) w fun t_193 w =>
                  bindS (vN (Instr.loadAt 101 t_185)) fun m_196 => ldv prog (Instr.loadAt 101 t_185) w fun t_195 w =>
                  pvv prog (binOp .add 101 t_195 t_142) w fun t_197 w =>
                  bindS (vN (Instr.loadAt 101 t_186)) fun m_199 => ldv prog (Instr.loadAt 101 t_186) w fun t_198 w =>
                  bindS (vN (Instr.loadAt 101 t_187)) fun m_201 => ldv prog (Instr.loadAt 101 t_187) w fun t_200 w =>
                  bindS (vN (Instr.loadAt 101 t_188)) fun m_203 => ldv prog (Instr.loadAt 101 t_188) w fun t_202 w =>
                  efv prog (Instr.buildSlice 102 8 #[(0, t_181), (1, t_189), (2, t_191), (3, t_193), (4, t_197), (5, t_198), (6, t_200), (7, t_202)]) w fun t_204 w => stay prog none m_196 t_195 w <| 
                  pvv prog (binOp .add 3 i_97 (.int .i64 1)) w fun t_205 w =>
                  again_98 [t_204, t_205] w))))))) <|
                lp (fun σ w again_214 => pop σ fun i_213 σ => fin σ <|
                  pvv prog (binOp .lss 3 i_213 (.int .i64 8)) w fun t_215 w =>
                  cd t_215 (
                    dr w fun w =>
                    pvv prog (Instr.indexAt 102 (.slice (some ⟨bh, 0, none⟩) 8 8) i_213) w fun t_216 w =>
                    pvv prog (Instr.indexAt 102 v_96 i_213) w fun t_217 w =>
                    bindS (vN (Instr.loadAt 101 t_216)) fun m_219 => ldv prog (Instr.loadAt 101 t_216) w fun t_218 w =>
                    bindS (vN (Instr.loadAt 101 t_217)) fun m_221 => ldv prog (Instr.loadAt 101 t_217) w fun t_220 w =>
                    pvv prog (binOp .add 101 t_218 t_220) w fun t_222 w =>
                    pvv prog (Instr.indexAt 102 (.slice (some ⟨bh, 0, none⟩) 8 8) i_213) w fun t_223 w =>
                    efu prog (Instr.storeAt 101 t_223 t_222) w fun u_224 w =>
                    pvv prog (binOp .add 3 i_213 (.int .i64 1)) w fun t_225 w =>
                    again_214 [t_225] w) <|
                  pvv prog (binOp .add 3 at_27 (.int .i64 64)) w fun t_227 w =>
                  again_28 [t_227] w) [(.int .i64 0)] w) [t_95, (.int .i64 0)] w) [(.int .i64 16)] w) [(.int .i64 0)] w) <|
        efv prog (Instr.alloc 36 true (.tuple #[])) w fun out_228 w =>
        lp (fun σ w again_230 => pop σ fun i_229 σ => fin σ <|
          pvv prog (binOp .lss 3 i_229 (.int .i64 32)) w fun t_231 w =>
          cd t_231 (
            pvv prog (binOp .quo 3 i_229 (.int .i64 4)) w fun t_232 w =>
            pvv prog (Instr.indexAt 102 (.slice (some ⟨bh, 0, none⟩) 8 8) t_232) w fun t_233 w =>
            ldv prog (Instr.loadAt 101 t_233) w fun t_234 w =>
            pvv prog (binOp .rem 3 i_229 (.int .i64 4)) w fun t_235 w =>
            pvv prog (binOp .mul 3 (.int .i64 8) t_235) w fun t_236 w =>
            pvv prog (binOp .sub 3 (.int .i64 24) t_236) w fun t_237 w =>
            pvv prog (binOp .shr 101 t_234 t_237) w fun t_238 w =>
            pvv prog (convert 101 5 t_238) w fun t_239 w =>
            pvv prog (Instr.indexAt 36 out_228 i_229) w fun t_240 w =>
            efu prog (Instr.storeAt 5 t_240 t_239) w fun u_241 w =>
            pvv prog (binOp .add 3 i_229 (.int .i64 1)) w fun t_242 w =>
            again_230 [t_242] w) <|
          ldv prog (Instr.loadAt 36 out_228) w fun t_243 w =>
          efu prog (Instr.storeAt 36 (.pointer (some ⟨bo, 0, none⟩)) t_243) w fun u_244 w =>
          ∃ r_245, (do loadVar 36 (← asAddr (.pointer (some ⟨bo, 0, none⟩)))).run prog w = .ok r_245 w ∧ K r_245 w) [(.int .i64 0)] w) [(.int .i64 0)] w) [ve, (.int .i64 0)] w := by
  refine lp_nat (fun q σ w => ∃ (i : Nat) (ve : Value), σ = [ve, .int .i64 i] ∧ q = 8 - i ∧ i ≤ 8 ∧
    sat E w (osl 5 1 ve (m.length + i) ((m ++ (lenBytes n).take i).map bv) * (pts bh (.cells (st.list.map wv).toArray 101 (0, 0)) * (pts bo (.cells (List.replicate 32 (bv 0)).toArray 36 (0, 0)) * H)))) 8
    ⟨0, ve, rfl, rfl, by omega, by simpa using h⟩ ?_
  clear h
  rintro q σ w again ⟨i, ve, rfl, rfl, hi, h⟩ hag
  rw [pop_cons, pop_cons, fin_nil, o_lss]
  refine cd_dec (fun hlt => ?_) (fun hge => ?_)
  · have hlt : i < 8 := by omega
    have e0 : IntKind.i64.wrap (8 * (i : Int)) = ((8 * i : Nat) : Int) := by rw [i64_of (by omega) (by omega)]; omega
    have e1 : IntKind.i64.wrap (56 - ((8 * i : Nat) : Int)) = ((56 - 8 * i : Nat) : Int) := by rw [i64_of (by omega) (by omega)]; omega
    rw [o_mul, e0, o_sub, e1, o_shr (by simp [IntKind.bits]; omega), o_convInt]
    have e2 : Value.int .u8 (IntKind.u8.wrap ((N / 2 ^ (56 - 8 * i) : Nat) : Int)) = bv (UInt8.ofNat (N / 2 ^ (56 - 8 * i))) := by
      unfold bv; rw [IntKind.wrap_u8]; congr 1
    rw [e2]
    refine push_sl h rfl rfl (by omega) (by omega) fun v2 w h => ?_
    rw [o_add, i64_of (by omega) (by omega)]
    refine hag (8 - (i + 1)) _ _ (by omega) ⟨i + 1, v2, rfl, rfl, by omega, ?_⟩
    rw [lenBytes_get hlt, hN, ← List.append_assoc, List.map_append]
    exact h
  · have hi8 : i = 8 := by omega
    subst hi8
    have e : (lenBytes n).take 8 = lenBytes n := List.take_of_length_le (by rw [lenBytes_length]; omega)
    rw [e] at h
    obtain ⟨a, c, rfl, _, _, ha⟩ := osl_shape h
    obtain ⟨bm, rfl⟩ := ha (by omega)
    have hfr := osl_freeze h
    have hfr : sat E w (pts bh (.cells (st.list.map wv).toArray 101 (0, 0)) * (pts bo (.cells (List.replicate 32 (bv 0)).toArray 36 (0, 0)) * (pers (immS (.slice (some ⟨bm, 0, none⟩) (m.length + 8) c) (m.length + 8) ((m ++ lenBytes n).map bv)) * H))) := hfr.perm (by ac_rfl)
    have el : (m ++ lenBytes n).length = m.length + 8 := by rw [List.length_append, lenBytes_length]
    have := r_blocks (m := m ++ lenBytes n) (bk := bk) (K := K) (by rw [el]; exact hm) (by rw [el]; exact hml) (by rw [el]; omega) hfr (bm := bm) (om := 0) (cm := c) (by rw [el]; exact Rds.pers.left) fun w h => k _ h.drop
    rw [el] at this
    exact this
theorem constants_spec (h : sat E w H) (k : ∀ bk w', sat E w' (pts bk (.cells (K0.map wv).toArray 101 (0, 0)) * H) → K (.slice (some ⟨bk, 0, none⟩) 64 64) w') : Calls prog 65 #[] w (Ret K) := by
  refine c65 ?_
  unfold B65
  exact buildSlice_sl (e := 101) (cs := (K0.map wv).toArray) h (fun w => by kernel_rfl) fun b1 w h => k _ _ h
theorem RSum_spec (h : sat E w H) {v : Value} {b : List UInt8} (hb : Rds H v b.length (b.map bv)) (hl : b.length ≤ 140737488355000)
    (k : ∀ w', sat E w' H → K (.agg ((sha b).map bv).toArray) w') : Calls prog 55 #[v] w (Ret K) := by
  obtain ⟨a, c, rfl, hc, hb, ha⟩ := hb.shape h
  refine c55 ?_
  unfold B55
  refine alloc_sl h fun bo w h => ?_
  refine buildSlice_sl (e := 101) (cs := (st0.list.map wv).toArray) h (fun w => by kernel_rfl) fun bh w h => ?_
  refine constants_spec h fun bk w h => ?_
  have h : sat E w (pts bk (.cells (K0.map wv).toArray 101 (0, 0)) * (pts bh (.cells (st0.list.map wv).toArray 101 (0, 0)) * (pts bo (.cells (List.replicate 32 (bv 0)).toArray 36 (0, 0)) * H))) := h
  refine append_sl (osl_nil h 5 1) (b.map bv) (by simp) (hb.win h.drop.drop.drop) (bv_one b) (by omega) (by omega) fun v1 w h => ?_
  refine push_sl h rfl rfl (by omega) (by omega) fun v2 w h => ?_
  simp only [List.nil_append, Nat.zero_add] at h
  refine lp_nat (fun q σ w => ∃ (z : Nat) (ve : Value), σ = [ve] ∧ q = (119 - b.length % 64) % 64 - z ∧ z ≤ (119 - b.length % 64) % 64 ∧
    sat E w (osl 5 1 ve (b.length + 1 + z) ((b ++ [128] ++ List.replicate z 0).map bv) * (pts bk (.cells (K0.map wv).toArray 101 (0, 0)) * (pts bh (.cells (st0.list.map wv).toArray 101 (0, 0)) * (pts bo (.cells (List.replicate 32 (bv 0)).toArray 36 (0, 0)) * H))))) ((119 - b.length % 64) % 64)
    ⟨0, v2, rfl, rfl, by omega, by simpa [bv] using h⟩ ?_
  clear h
  rintro q σ w again ⟨z, ve, rfl, rfl, hz, h⟩ hag
  obtain ⟨a2, c2, rfl, _, _, _⟩ := osl_shape h
  rw [pop_cons, fin_nil, o_len, o_rem (by decide), o_neInt]
  have et : (((b.length + 1 + z : Nat) : Int)).tmod 64 = (((b.length + 1 + z) % 64 : Nat) : Int) := by
    rw [Int.tmod_eq_emod_of_nonneg (by omega)]; omega
  rw [et]
  refine cd_dec' (fun heq => ?_) (fun hne => ?_)
  · have hz2 : z = (119 - b.length % 64) % 64 := by omega
    subst hz2
    rw [o_len, o_convInt, o_mul]
    have ew : IntKind.u64.wrap (b.length : Int) = (b.length : Int) := by rw [IntKind.wrap_u64]; omega
    have en : IntKind.u64.wrap ((b.length : Int) * 8) = ((b.length * 8 % 18446744073709551616 : Nat) : Int) := by rw [IntKind.wrap_u64]; omega
    rw [ew, en]
    have el : (b ++ [128] ++ List.replicate ((119 - b.length % 64) % 64) 0).length = b.length + 1 + (119 - b.length % 64) % 64 := by simp; omega
    have h2 : sat E w (osl 5 1 (.slice a2 (b.length + 1 + (119 - b.length % 64) % 64) c2) (b ++ [128] ++ List.replicate ((119 - b.length % 64) % 64) 0).length ((b ++ [128] ++ List.replicate ((119 - b.length % 64) % 64) 0).map bv) * (pts bh (.cells (st0.list.map wv).toArray 101 (0, 0)) * (pts bo (.cells (List.replicate 32 (bv 0)).toArray 36 (0, 0)) * (pts bk (.cells (K0.map wv).toArray 101 (0, 0)) * H)))) := by
      rw [el]
      exact h.perm (by ac_rfl)
    exact r_len (bk := bk) (n := b.length) (st := st0) rfl (by rw [el]; omega) (by rw [el]; omega) h2 fun w h => k _ h.drop
  · have hz2 : z < (119 - b.length % 64) % 64 := by omega
    refine push_sl h rfl rfl (by omega) (by omega) fun v3 w h => ?_
    refine hag ((119 - b.length % 64) % 64 - (z + 1)) _ _ (by omega) ⟨z + 1, v3, rfl, rfl, by omega, ?_⟩
    have e : (b ++ [128] ++ List.replicate z 0).map bv ++ [Value.int .u8 0] = (b ++ [128] ++ List.replicate (z + 1) 0).map bv := by
      rw [List.replicate_succ']; simp [bv]
    rw [← e]
    exact h
end Go.Proofs.YtjeiojibnmfibaaDoor

/-
  Tags: keys filled to a block, the code's and the reference's; links of a chain; hashes compared.
-/
set_option linter.all false
set_option maxRecDepth 10000
namespace Go.Proofs.YtjeiojibnmfibaaDoor
open Go Hold
variable {E : World0} {w : World} {H R : HP} {K : Value → World → Prop}
def key0 (key : List UInt8) : List UInt8 := if 64 < key.length then sha key else key
def filled (key : List UInt8) : List UInt8 := key0 key ++ List.replicate (64 - (key0 key).length) 0
def tag (key b : List UInt8) : List UInt8 := sha ((filled key).map (· ^^^ 92) ++ sha ((filled key).map (· ^^^ 54) ++ b))
theorem key0_length (key : List UInt8) : (key0 key).length ≤ 64 := by
  unfold key0; split
  · rw [sha_length]; omega
  · omega
theorem filled_length (key : List UInt8) : (filled key).length = 64 := by
  have := key0_length key
  simp [filled]; omega
theorem tag_length (key b : List UInt8) : (tag key b).length = 32 := sha_length _
/-- A hash in a block of its own. -/
theorem hash_var (h : sat E w H) {l : List UInt8} (hl : l.length = 32) {K : Value → World → Prop}
    (k : ∀ b w', sat E w' (pts b (.cells (l.map bv).toArray 36 (0, 0)) * H) → K (.pointer (some ⟨b, 0, none⟩)) w') :
    efv prog (Instr.alloc 36 true (.tuple #[])) w fun x w => efu prog (Instr.storeAt 36 x (.agg (l.map bv).toArray)) w fun _ w => K x w := by
  refine alloc_sl h fun b w h => ?_
  have h : sat E w (pts b (.cells (List.replicate 32 (bv 0)).toArray 36 (0, 0)) * H) := h
  refine storeN_sl (b := b) h (aggC_36).size (vs := l.map bv) (by simp [Value.cells]) (by simpa using hl) (bv_one _) (by simp) fun w h => ?_
  have e : (List.replicate 32 (bv 0)).take 0 ++ l.map bv ++ (List.replicate 32 (bv 0)).drop (0 + 32) = l.map bv := by simp
  rw [e] at h
  exact k b w h
/-- A hash is stored into its result, and handed back. -/
theorem hash_ret (h : sat E w H) {b : Nat} {l ol : List UInt8} (hl : l.length = 32) (hol : ol.length = 32) [Own H b (.cells (ol.map bv).toArray 36 (0, 0)) R] {K : Value → World → Prop}
    (k : ∀ w', sat E w' (pts b (.cells (l.map bv).toArray 36 (0, 0)) * R) → K (.agg (l.map bv).toArray) w') :
    efu prog (Instr.storeAt 36 (.pointer (some ⟨b, 0, none⟩)) (.agg (l.map bv).toArray)) w fun _ w =>
      ∃ r, (do loadVar 36 (← asAddr (.pointer (some ⟨b, 0, none⟩)))).run prog w = .ok r w ∧ K r w := by
  refine storeN_sl (b := b) h (aggC_36).size (vs := l.map bv) (by simp [Value.cells]) (by simpa using hl) (bv_one _) (by simp [hol]) fun w h => ?_
  have e : (ol.map bv).take 0 ++ l.map bv ++ (ol.map bv).drop (0 + 32) = l.map bv := by
    rw [List.drop_eq_nil_of_le (by simp [hol])]; simp
  rw [e] at h
  exact res_agg (b := b) h (by simpa using hl) (k _ h)
theorem rds_block {b e : Nat} {n c : Nat} {xs : List Value} {fr : Nat × Nat} [hb : Has H b (.cells xs.toArray e fr)] (hc : n ≤ c) : Rds H (.slice (some ⟨b, 0, none⟩) n c) n xs := fun E w hs =>
  ⟨_, c, rfl, hc, .inr ⟨b, 0, _, _, _, rfl, hb.get hs, fun j v hj => by simpa using hj⟩⟩
theorem take_get {l : List UInt8} {i : Nat} (h : i < l.length) : l.take (i + 1) = l.take i ++ [l.getD i 0] := by
  rw [List.take_succ_eq_append_getElem h]
  simp [List.getD_eq_getElem?_getD, h]
theorem take_bv {l : List UInt8} {i : Nat} (h : i < l.length) : (l.take i).map bv ++ [bv (l.getD i 0)] = (l.take (i + 1)).map bv := by
  rw [take_get h, List.map_append]; rfl
theorem bytesOf_spec (h : sat E w H) {l : List UInt8} (hl : l.length = 32) (k : ∀ v w', sat E w' (osl 5 1 v 32 (l.map bv) * H) → K v w') : Calls prog 54 #[.agg (l.map bv).toArray] w (Ret K) := by
  refine c54 ?_
  unfold B54
  refine box_sl h fun b1 w h => ?_
  have h : sat E w (pts b1 (.cells (l.map bv).toArray 36 (0, 0)) * H) := h
  refine lp_nat (fun q σ w => ∃ (i : Nat) (v : Value), σ = [v, .int .i64 i] ∧ q = 32 - i ∧ i ≤ 32 ∧ sat E w (osl 5 1 v i ((l.take i).map bv) * (pts b1 (.cells (l.map bv).toArray 36 (0, 0)) * H))) 32
    ⟨0, _, rfl, rfl, by omega, osl_nil h 5 1⟩ ?_
  rintro q σ w again ⟨i, v, rfl, rfl, hi, h⟩ hag
  rw [pop_cons, pop_cons, fin_nil, o_lss]
  refine cd_dec (fun hlt => ?_) (fun hge => ?_)
  · rw [o_indexA (by omega) (by omega)]
    refine ld_in (b := b1) (o := 0 + (i : Int).toNat) (v := bv (l.getD i 0)) h (by rw [Nat.zero_add]; exact getbv (by rw [Int.toNat_natCast]; omega)) ?_
    refine push_sl h rfl rfl (by omega) (by omega) fun v2 w h => ?_
    rw [o_add, i64_of (by omega) (by omega)]
    refine hag (32 - (i + 1)) _ _ (by omega) ⟨i + 1, v2, rfl, rfl, by omega, ?_⟩
    rw [← take_bv (show i < l.length by omega)]; exact h
  · have hi2 : i = 32 := by omega
    subst hi2
    rw [List.take_of_length_le (by omega)] at h
    exact k _ _ (h.lose b1)
theorem Chain_spec (h : sat E w H) {l b : List UInt8} (hl : l.length = 32) {v : Value} (hb : Rds H v b.length (b.map bv)) (hbl : b.length + 32 ≤ 140737488355000) (k : ∀ w', sat E w' H → K (.agg ((sha (l ++ b)).map bv).toArray) w') : Calls prog 46 #[.agg (l.map bv).toArray, v] w (Ret K) := by
  obtain ⟨a, c, rfl, hc, hb, ha⟩ := hb.shape h
  refine c46 ?_
  unfold B46
  refine box_sl h fun b1 w h => ?_
  have h : sat E w (pts b1 (.cells (l.map bv).toArray 36 (0, 0)) * H) := h
  refine alloc_sl h fun b2 w h => ?_
  have h : sat E w (pts b2 (.cells ((List.replicate 32 (0 : UInt8)).map bv).toArray 36 (0, 0)) * (pts b1 (.cells (l.map bv).toArray 36 (0, 0)) * H)) := h
  rw [o_sliceA]
  refine append_full h (xs := l.map bv) (by simpa using hl) (rds_block (b := b1) (Nat.le_refl _)) (b.map bv) (by simp) (hb.win h.drop.drop) (bv_one b) (by omega) (by omega) fun v3 w X h hv3 => ?_
  refine Sum_spec (b := l ++ b) h (by rw [List.length_append, hl, List.map_append]; exact hv3) (by simp; omega) fun w h => ?_
  exact hash_ret (b := b2) h (sha_length _) (by simp) fun w h => k _ h.drop.drop.drop
end Go.Proofs.YtjeiojibnmfibaaDoor

/-
  Links of a chain, the reference's.
-/
set_option linter.all false
set_option maxRecDepth 10000
namespace Go.Proofs.YtjeiojibnmfibaaDoor
open Go Hold
variable {E : World0} {w : World} {H R : HP} {K : Value → World → Prop}
theorem RChain_spec (h : sat E w H) {l b : List UInt8} (hl : l.length = 32) {v : Value} (hb : Rds H v b.length (b.map bv)) (hbl : b.length + 32 ≤ 140737488355000) (k : ∀ w', sat E w' H → K (.agg ((sha (l ++ b)).map bv).toArray) w') : Calls prog 42 #[.agg (l.map bv).toArray, v] w (Ret K) := by
  obtain ⟨a, c, rfl, hc, hb, ha⟩ := hb.shape h
  refine c42 ?_
  unfold B42
  refine box_sl h fun b1 w h => ?_
  have h : sat E w (pts b1 (.cells (l.map bv).toArray 36 (0, 0)) * H) := h
  refine alloc_sl h fun b2 w h => ?_
  have h : sat E w (pts b2 (.cells ((List.replicate 32 (0 : UInt8)).map bv).toArray 36 (0, 0)) * (pts b1 (.cells (l.map bv).toArray 36 (0, 0)) * H)) := h
  refine ld_agg (b := b1) h (by simpa using hl) ?_
  refine bytesOf_spec h hl fun v3 w h => ?_
  refine append_sl (v := v3) h (b.map bv) (by simp) (hb.win h.drop.drop.drop) (bv_one b) (by omega) (by omega) fun v4 w h => ?_
  have hr : Rds (osl 5 1 v4 (32 + b.length) (l.map bv ++ b.map bv) * (pts b2 (.cells ((List.replicate 32 (0 : UInt8)).map bv).toArray 36 (0, 0)) * (pts b1 (.cells (l.map bv).toArray 36 (0, 0)) * H))) v4 (l ++ b).length ((l ++ b).map bv) := by
    rw [List.length_append, hl, List.map_append]; exact Rds.osl.left
  refine RSum_spec (b := l ++ b) h hr (by simp; omega) fun w h => ?_
  exact hash_ret (b := b2) h (sha_length _) (by simp) fun w h => k _ h.drop.drop.drop
end Go.Proofs.YtjeiojibnmfibaaDoor
