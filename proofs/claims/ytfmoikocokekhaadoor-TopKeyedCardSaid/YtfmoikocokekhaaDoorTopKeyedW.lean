/-
  TopKeyed: the walk.
-/
import Derived.Test.YtfmoikocokekhaaDoorCodC
import Derived.Test.YtfmoikocokekhaaDoorDerA
import Derived.Test.YtfmoikocokekhaaDoorOpens
set_option linter.all false
set_option maxRecDepth 100000
namespace Go.Proofs.YtfmoikocokekhaaDoor.Keyed
open Go Hold Go.ChangeShapes Go.WideShapes Go.ChangeAt Go.RowKit
variable {E : World0} {w : World} {H R : HP} {K : Value → World → Prop}
structure KY where
  v1 : Value
  l1 : List Bs
  v2 : Value
  l2 : List Bs
  v3 : Value
  p : Bs
def kcells (x : KY) : List Value := [x.v1, x.v2, x.v3]
structure OkK (H : HP) (x : KY) : Prop where
  r1 : Rds H x.v1 x.l1.length (x.l1.map tv)
  r2 : Rds H x.v2 x.l2.length (x.l2.map tv)
  r3 : Rds H x.v3 x.p.length (x.p.map bv)
section
variable {W : World} {H : Type} {enc : TypeId × Value → H} {r : Reach} {b0 : Nat} {v : Value} {d : DataW H} {p : List MemPlace}
theorem u27 : ∃ f0 f1 f2 : Field, prog.underlying 27 = some (.struct #[f0, f1, f2]) ∧ (f0.type = 24 ∧ f0.offset = 0) ∧ (f1.type = 24 ∧ f1.offset = 1) ∧ (f2.type = 25 ∧ f2.offset = 2) :=
  ⟨(prog.fieldsOf 27).toList.getD 0 default, (prog.fieldsOf 27).toList.getD 1 default, (prog.fieldsOf 27).toList.getD 2 default, by kernel_rfl, ⟨by kernel_rfl, by kernel_rfl⟩, ⟨by kernel_rfl, by kernel_rfl⟩, ⟨by kernel_rfl, by kernel_rfl⟩⟩
theorem texts_of {n : Nat} {cs : List Value} {D : DataW H × List MemPlace} (hf : DataW.trod enc prog W 0 (fun _ => true) true n 24 cs = some D) : ∃ (v : Value) (l : List Bs), cs = [v] ∧ Rds (old W) v l.length (l.map tv) := by
  obtain ⟨v, l, e1, h1, h2⟩ := elems_of (t := 24) (e := 9) (cells := fun b : Bs => [tv b]) (k := 1) (by kernel_rfl) (by kernel_rfl) (by omega) (fun _ => rfl) (fun {n cs D} hd => by
    obtain ⟨s, hs, _⟩ := DataW.trod_string ul_9.ul hd
    exact ⟨s.data.toList, by rw [hs]; simp [tv]⟩) hf
  exact ⟨v, l, e1, by rw [fm_one tv] at h1; exact h1⟩
theorem bytes_of {n : Nat} {cs : List Value} {D : DataW H × List MemPlace} (hf : DataW.trod enc prog W 0 (fun _ => true) true n 25 cs = some D) : ∃ (v : Value) (l : Bs), cs = [v] ∧ Rds (old W) v l.length (l.map bv) := by
  obtain ⟨v, l, e1, h1, h2⟩ := elems_of (t := 25) (e := 5) (cells := fun b : UInt8 => [bv b]) (k := 1) (by kernel_rfl) (by kernel_rfl) (by omega) (fun _ => rfl) (fun {n cs D} hd => by
    obtain ⟨z, hz, _, hwf⟩ := DataW.trod_int (t := 5) (k := .u8) (by kernel_rfl) hd
    obtain ⟨b, hb⟩ := u8_wf hwf
    exact ⟨b, by rw [hz, hb]⟩) hf
  exact ⟨v, l, e1, by rw [fm_one bv] at h1; exact h1⟩
theorem keyed_of {n : Nat} {cs : List Value} {D : DataW H × List MemPlace} (h : DataW.trod enc prog W 0 (fun _ => true) true n 27 cs = some D) : ∃ x : {x : KY // OkK (old W) x}, cs = kcells x.1 := by
  obtain ⟨f0, f1, f2, hu, ⟨t0, o0⟩, ⟨t1, o1⟩, ⟨t2, o2⟩⟩ := u27
  obtain ⟨xs, m, _, _, hl, hlen, hf⟩ := DataW.trod_struct hu h
  rw [show prog.cellsOf 27 = 3 by kernel_rfl] at hl
  have c24 : prog.cellsOf 24 = 1 := by kernel_rfl
  have c25 : prog.cellsOf 25 = 1 := by kernel_rfl
  match xs, hlen, cs, hl with
  | [y0, y1, y2], _, [a, b, c], _ =>
    have g0 := hf 0 f0 rfl
    have g1 := hf 1 f1 rfl
    have g2 := hf 2 f2 rfl
    simp only [t0, o0, t1, o1, t2, o2, c24, c25, List.drop, List.take] at g0 g1 g2
    obtain ⟨v1, l1, e1, r1⟩ := texts_of g0
    obtain ⟨v2, l2, e2, r2⟩ := texts_of g1
    obtain ⟨v3, l3, e3, r3⟩ := bytes_of g2
    simp only [List.cons.injEq, and_true] at e1 e2 e3
    subst e1 e2 e3
    exact ⟨⟨⟨a, l1, b, l2, c, l3⟩, ⟨r1, r2, r3⟩⟩, rfl⟩
theorem open_keyed (hv : Value.okWide prog W r b0 27 v) (h : DataW.Trod enc prog W 0 (fun _ => true) true 27 v d p) (_hw : ∀ n ∈ d.weights prog 27, n ≤ 140737488351232) : ∃ x : KY, v = .agg (kcells x).toArray ∧ OkK (old W) x := by
  obtain ⟨_, _, _, hu, _⟩ := u27
  obtain ⟨cs, rfl, _⟩ := okWide_struct hu hv
  obtain ⟨fuel, hf⟩ := h
  obtain ⟨x, e⟩ := keyed_of hf
  simp only [Value.cells] at e
  exact ⟨x.1, by rw [← e], x.2⟩
end
theorem open_zero {j s : Bs} (h1 : 24 ≤ s.length) (h2 : s.length ≤ 1048) : decide ((openB j s).2.2 = 0) = decide ((tag j (116 :: s.take (s.length - 16))).take 16 = s.drop (s.length - 16)) := by
  unfold openB
  rw [if_neg (by omega), if_neg (by omega)]
  by_cases e : tagB j (s.take (s.length - 16)) = s.drop (s.length - 16)
  · rw [if_neg (by simpa using e)]
    have e' : (tag j (116 :: s.take (s.length - 16))).take 16 = s.drop (s.length - 16) := e
    rw [decide_eq_true e']; rfl
  · rw [if_pos e]
    have e' : ¬ (tag j (116 :: s.take (s.length - 16))).take 16 = s.drop (s.length - 16) := e
    rw [decide_eq_false e']; rfl
theorem Keyed_spec (h : sat E w H) (l : Bs) (hl : l.length = 32) (x : KY) (ok : OkK H x) (k : ∀ w', sat E w' H → K (.bool true) w') : Calls prog 3 #[.agg (l.map bv).toArray, .agg (kcells x).toArray] w (Ret K) := by
  have ll : (l.map bv).length = 32 := by simpa using hl
  have l1 := derive_length l x.l1
  have l2 := derive_length l x.l2
  have z1 : ((derive l x.l1).1.map bv).length = 32 := by simpa using l1
  have z2 : ((derive l x.l2).1.map bv).length = 32 := by simpa using l2
  refine c3 ?_
  unfold B3
  refine box_sl h fun rb w h => ?_
  have h : sat E w (pts rb (.cells (l.map bv).toArray 23 (0, 0)) * H) := h
  refine box_sl h fun xb w h => ?_
  have h : sat E w (pts xb (.cells (kcells x).toArray 27 (0, 0)) * (pts rb (.cells (l.map bv).toArray 23 (0, 0)) * H)) := h
  refine ld_agg (b := rb) h ll ?_
  try simp only [↓o_nil, ↓o_field, ↓o_add, ↓o_sub, ↓o_mul, ↓o_lss, ↓o_leq, ↓o_gtr, ↓o_geq, ↓o_not, ↓o_pick, ↓o_eqInt, ↓o_neInt, ↓o_eqBool, ↓o_neBool, ↓o_eqPtr, ↓o_nePtr, ↓o_eqPtr', ↓o_eqSl, ↓o_neSl, ↓o_eqStr, ↓o_neStr, ↓o_len, ↓o_lenS, ↓o_min, ↓o_max, ↓o_extract, ↓o_convInt, ↓cd_true, ↓cd_false, ↓gate_tt, ↓gate_ff, ↓gate_tf, ↓gate_ft, ↓gate_undef, ↓o_bind, ↓stay_v, ↓pop_cons, ↓fin_nil, Option.isNone_none, Option.isNone_some, Bool.not_true, Bool.not_false, Nat.zero_add, decide_true, decide_false, if_true, if_false, Bool.false_eq_true, ↓reduceIte]
  refine ld_in (b := xb) (v := x.v1) h rfl ?_
  refine Derive_spec h hl ok.r1.right.right fun w h => ?_
  try simp only [↓o_nil, ↓o_field, ↓o_add, ↓o_sub, ↓o_mul, ↓o_lss, ↓o_leq, ↓o_gtr, ↓o_geq, ↓o_not, ↓o_pick, ↓o_eqInt, ↓o_neInt, ↓o_eqBool, ↓o_neBool, ↓o_eqPtr, ↓o_nePtr, ↓o_eqPtr', ↓o_eqSl, ↓o_neSl, ↓o_eqStr, ↓o_neStr, ↓o_len, ↓o_lenS, ↓o_min, ↓o_max, ↓o_extract, ↓o_convInt, ↓cd_true, ↓cd_false, ↓gate_tt, ↓gate_ff, ↓gate_tf, ↓gate_ft, ↓gate_undef, ↓o_bind, ↓stay_v, ↓pop_cons, ↓fin_nil, Option.isNone_none, Option.isNone_some, Bool.not_true, Bool.not_false, Nat.zero_add, decide_true, decide_false, if_true, if_false, Bool.false_eq_true, ↓reduceIte]
  refine hash_var h l1 fun kb w h => ?_
  refine ld_agg (b := rb) h ll ?_
  try simp only [↓o_nil, ↓o_field, ↓o_add, ↓o_sub, ↓o_mul, ↓o_lss, ↓o_leq, ↓o_gtr, ↓o_geq, ↓o_not, ↓o_pick, ↓o_eqInt, ↓o_neInt, ↓o_eqBool, ↓o_neBool, ↓o_eqPtr, ↓o_nePtr, ↓o_eqPtr', ↓o_eqSl, ↓o_neSl, ↓o_eqStr, ↓o_neStr, ↓o_len, ↓o_lenS, ↓o_min, ↓o_max, ↓o_extract, ↓o_convInt, ↓cd_true, ↓cd_false, ↓gate_tt, ↓gate_ff, ↓gate_tf, ↓gate_ft, ↓gate_undef, ↓o_bind, ↓stay_v, ↓pop_cons, ↓fin_nil, Option.isNone_none, Option.isNone_some, Bool.not_true, Bool.not_false, Nat.zero_add, decide_true, decide_false, if_true, if_false, Bool.false_eq_true, ↓reduceIte]
  refine ld_in (b := xb) (v := x.v2) h rfl ?_
  refine Derive_spec h hl ok.r2.right.right.right fun w h => ?_
  try simp only [↓o_nil, ↓o_field, ↓o_add, ↓o_sub, ↓o_mul, ↓o_lss, ↓o_leq, ↓o_gtr, ↓o_geq, ↓o_not, ↓o_pick, ↓o_eqInt, ↓o_neInt, ↓o_eqBool, ↓o_neBool, ↓o_eqPtr, ↓o_nePtr, ↓o_eqPtr', ↓o_eqSl, ↓o_neSl, ↓o_eqStr, ↓o_neStr, ↓o_len, ↓o_lenS, ↓o_min, ↓o_max, ↓o_extract, ↓o_convInt, ↓cd_true, ↓cd_false, ↓gate_tt, ↓gate_ff, ↓gate_tf, ↓gate_ft, ↓gate_undef, ↓o_bind, ↓stay_v, ↓pop_cons, ↓fin_nil, Option.isNone_none, Option.isNone_some, Bool.not_true, Bool.not_false, Nat.zero_add, decide_true, decide_false, if_true, if_false, Bool.false_eq_true, ↓reduceIte]
  refine hash_var h l2 fun jb w h => ?_
  have hbad : ∀ w, sat E w (pts jb (.cells ((derive l x.l2).1.map bv).toArray 23 (0, 0)) * (pts kb (.cells ((derive l x.l1).1.map bv).toArray 23 (0, 0)) * (pts xb (.cells (kcells x).toArray 27 (0, 0)) * (pts rb (.cells (l.map bv).toArray 23 (0, 0)) * H)))) →
      Calls prog 6 #[(.slice none 0 0)] w (Ret fun t_22 w => Calls prog 5 #[t_22] w (Ret fun t_23 w => pvv prog (Instr.sliceAt 9 t_23 none (some (.int .i64 4)) none) w fun t_24 w => pvv prog (oEq .eql 9 (.tmp 43) (.const (.string ⟨#[101, 51, 98, 48]⟩)) t_24 (.string ⟨#[101, 51, 98, 48]⟩)) w fun t_25 w => K t_25 w)) := fun w h => by
    refine Sum_spec h (v := .slice none 0 0) (b := []) (fun E w hs => ⟨none, 0, rfl, Nat.le_refl _, .inl rfl⟩) (by simp) fun w h => ?_
    refine Hex_spec h (sha_length _) fun w h => ?_
    rw [o_sliceT_h (by decide) (by rw [hex_length, sha_length]; decide), live1, show (.string ⟨#[101, 51, 98, 48]⟩ : Value) = tv [101, 51, 98, 48] from rfl, o_eqT]
    simp only [show (4 : Int).toNat = 4 from rfl, List.take]
    exact k w h.drop.drop.drop.drop
  have hfull : ((derive l x.l1).2 = 0 → (derive l x.l2).2 = 0 → ∀ w, sat E w (pts jb (.cells ((derive l x.l2).1.map bv).toArray 23 (0, 0)) * (pts kb (.cells ((derive l x.l1).1.map bv).toArray 23 (0, 0)) * (pts xb (.cells (kcells x).toArray 27 (0, 0)) * (pts rb (.cells (l.map bv).toArray 23 (0, 0)) * H)))) → (
  ldv prog (Instr.loadAt 23 (.pointer (some ⟨kb, 0, none⟩))) w fun t_26 w =>
  pvv prog (Instr.fieldAt 27 (.pointer (some ⟨xb, 0, none⟩)) 2) w fun t_27 w =>
  ldv prog (Instr.loadAt 25 t_27) w fun t_28 w =>
  Calls prog 7 #[t_26, (.int .u64 3), t_28] w (Ret fun t_29 w =>
  pvv prog (Instr.extract t_29 0) w fun t_30 w =>
  pvv prog (Instr.extract t_29 1) w fun t_31 w =>
  pvv prog (oEq .neq 28 (.tmp 52) (.const (.int .i64 0)) t_31 (.int .i64 0)) w fun t_32 w =>
  cd t_32 (
    pvv prog (Instr.fieldAt 27 (.pointer (some ⟨xb, 0, none⟩)) 2) w fun t_33 w =>
    ldv prog (Instr.loadAt 25 t_33) w fun t_34 w =>
    pv prog (oBi .len #[25] 3 #[false] #[t_34]) w fun t_35 w =>
    pvv prog (binOp .gtr 3 t_35 (.int .i64 1024)) w fun t_36 w =>
    K t_36 w) <|
  pv prog (oBi .len #[25] 3 #[false] #[t_30]) w fun t_37 w =>
  pvv prog (binOp .lss 3 t_37 (.int .i64 24)) w fun t_38 w =>
  cd t_38 (
    K (.bool false) w) <|
  ldv prog (Instr.loadAt 23 (.pointer (some ⟨rb, 0, none⟩))) w fun t_39 w =>
  pvv prog (Instr.fieldAt 27 (.pointer (some ⟨xb, 0, none⟩)) 0) w fun t_40 w =>
  ldv prog (Instr.loadAt 24 t_40) w fun t_41 w =>
  Calls prog 4 #[t_39, t_41] w (Ret fun t_42 w =>
  pvv prog (Instr.extract t_42 0) w fun t_43 w =>
  pvv prog (Instr.extract t_42 1) w fun t_44 w =>
  efv prog (Instr.alloc 23 true (.tuple #[])) w fun again_45 w =>
  efu prog (Instr.storeAt 23 again_45 t_43) w fun u_46 w =>
  ldv prog (Instr.loadAt 23 again_45) w fun t_47 w =>
  Calls prog 8 #[t_47, t_30] w (Ret fun t_48 w =>
  pvv prog (Instr.extract t_48 0) w fun t_49 w =>
  pvv prog (Instr.extract t_48 1) w fun t_50 w =>
  pvv prog (Instr.extract t_48 2) w fun t_51 w =>
  ldv prog (Instr.loadAt 23 (.pointer (some ⟨jb, 0, none⟩))) w fun t_52 w =>
  Calls prog 8 #[t_52, t_30] w (Ret fun t_53 w =>
  pvv prog (Instr.extract t_53 0) w fun t_54 w =>
  pvv prog (Instr.extract t_53 1) w fun t_55 w =>
  pvv prog (Instr.extract t_53 2) w fun t_56 w =>
  efv prog (Instr.buildSlice 25 1 #[(0, (.int .u8 116))]) w fun t_57 w =>
  pv prog (oBi .len #[25] 3 #[false] #[t_30]) w fun t_58 w =>
  pvv prog (binOp .sub 3 t_58 (.int .i64 16)) w fun t_59 w =>
  pvv prog (Instr.sliceAt 25 t_30 none (some t_59) none) w fun t_60 w =>
  ef prog (oBi .append #[25, 25] 25 #[false, false] #[t_57, t_60]) w fun t_61 w =>
  pvv prog (Instr.sliceAt 23 (.pointer (some ⟨jb, 0, none⟩)) none none none) w fun t_62 w =>
  Calls prog 9 #[t_62, t_61] w (Ret fun t_63 w =>
  efv prog (Instr.alloc 23 true (.tuple #[])) w fun tag_64 w =>
  efu prog (Instr.storeAt 23 tag_64 t_63) w fun u_65 w =>
  dr w fun w =>
  pvv prog (oEq .eql 28 (.tmp 92) (.const (.int .i64 0)) t_51 (.int .i64 0)) w fun t_66 w =>
  gate (some (t_66, true)) (fun K => K t_50 w) w fun t_67 w =>
  gate (some (t_66, true)) (fun K => pvv prog (oEq .eql 35 (.tmp 95) (.const (.int .u64 3)) t_67 (.int .u64 3)) w K) w fun t_68 w =>
  pv prog (oPick t_66 t_68 (.bool false)) w fun t_69 w =>
  gate (some (t_69, true)) (fun K => K t_49 w) w fun t_70 w =>
  gate (some (t_69, true)) (fun K => pvv prog (Instr.fieldAt 27 (.pointer (some ⟨xb, 0, none⟩)) 2) w K) w fun t_71 w =>
  bindS (vN (Instr.loadAt 25 t_71)) fun m_73 => gate (some (t_69, true)) (fun K => ldv prog (Instr.loadAt 25 t_71) w K) w fun t_72 w =>
  gate (some (t_69, true)) (fun K => Calls prog 10 #[t_70, t_72] w (Ret fun s_88 w => K s_88 w)) w fun t_74 w =>
  pv prog (oPick t_69 t_74 (.bool false)) w fun t_75 w =>
  gate (some (t_75, true)) (fun K => K t_56 w) w fun t_76 w =>
  gate (some (t_75, true)) (fun K => pvv prog (oEq .eql 28 (.tmp 105) (.const (.int .i64 0)) t_76 (.int .i64 0)) w K) w fun t_77 w =>
  gate (some (t_75, true)) (fun K => pvv prog (Instr.sliceAt 23 tag_64 none (some (.int .i64 16)) none) w K) w fun t_78 w =>
  gate (some (t_75, true)) (fun K => K t_30 w) w fun t_79 w =>
  gate (some (t_75, true)) (fun K => K t_30 w) w fun t_80 w =>
  gate (some (t_75, true)) (fun K => pv prog (oBi .len #[25] 3 #[false] #[t_80]) w K) w fun t_81 w =>
  gate (some (t_75, true)) (fun K => pvv prog (binOp .sub 3 t_81 (.int .i64 16)) w K) w fun t_82 w =>
  gate (some (t_75, true)) (fun K => pvv prog (Instr.sliceAt 25 t_79 (some t_82) none none) w K) w fun t_83 w =>
  gate (some (t_75, true)) (fun K => Calls prog 10 #[t_78, t_83] w (Ret fun s_87 w => stay prog (some (t_69, true)) m_73 t_72 w <| K s_87 w)) w fun t_84 w =>
  gate (some (t_75, true)) (fun K => pvv prog (oEq .eql 4 (.tmp 106) (.tmp 113) t_77 t_84) w K) w fun t_85 w =>
  pv prog (oPick t_75 t_85 (.bool false)) w fun t_86 w =>
  K t_86 w))))))) := fun q1 q2 w h => by
    refine ld_agg (b := kb) h z1 ?_
    try simp only [↓o_nil, ↓o_field, ↓o_add, ↓o_sub, ↓o_mul, ↓o_lss, ↓o_leq, ↓o_gtr, ↓o_geq, ↓o_not, ↓o_pick, ↓o_eqInt, ↓o_neInt, ↓o_eqBool, ↓o_neBool, ↓o_eqPtr, ↓o_nePtr, ↓o_eqPtr', ↓o_eqSl, ↓o_neSl, ↓o_eqStr, ↓o_neStr, ↓o_len, ↓o_lenS, ↓o_min, ↓o_max, ↓o_extract, ↓o_convInt, ↓cd_true, ↓cd_false, ↓gate_tt, ↓gate_ff, ↓gate_tf, ↓gate_ft, ↓gate_undef, ↓o_bind, ↓stay_v, ↓pop_cons, ↓fin_nil, Option.isNone_none, Option.isNone_some, Bool.not_true, Bool.not_false, Nat.zero_add, decide_true, decide_false, if_true, if_false, Bool.false_eq_true, ↓reduceIte]
    refine ld_in (b := xb) (v := x.v3) h rfl ?_
    have hp0 : ∀ {X Y Z U : HP}, Rds (X * (Y * (Z * (U * H)))) x.v3 x.p.length (x.p.map bv) := ok.r3.right.right.right.right
    refine Seal_spec h l1 (n := 3) (by decide) hp0 (fun hm w h => ?_) (fun hm sv w h => ?_)
    · simp only [show decide ((6 : Int) = 0) = false from rfl, ↓o_nil, ↓o_field, ↓o_add, ↓o_sub, ↓o_mul, ↓o_lss, ↓o_leq, ↓o_gtr, ↓o_geq, ↓o_not, ↓o_pick, ↓o_eqInt, ↓o_neInt, ↓o_eqBool, ↓o_neBool, ↓o_eqPtr, ↓o_nePtr, ↓o_eqPtr', ↓o_eqSl, ↓o_neSl, ↓o_eqStr, ↓o_neStr, ↓o_len, ↓o_lenS, ↓o_min, ↓o_max, ↓o_extract, ↓o_convInt, ↓cd_true, ↓cd_false, ↓gate_tt, ↓gate_ff, ↓gate_tf, ↓gate_ft, ↓gate_undef, ↓o_bind, ↓stay_v, ↓pop_cons, ↓fin_nil, Option.isNone_none, Option.isNone_some, Bool.not_true, Bool.not_false, Nat.zero_add, decide_true, decide_false, if_true, if_false, Bool.false_eq_true, ↓reduceIte]
      refine ld_in (b := xb) (v := x.v3) h rfl ?_
      obtain ⟨a3, c3, e3, _⟩ := hp0.shape h
      rw [e3]
      simp only [decide_eq_true (show (1024 : Int) < (x.p.length : Int) by omega), ↓o_nil, ↓o_field, ↓o_add, ↓o_sub, ↓o_mul, ↓o_lss, ↓o_leq, ↓o_gtr, ↓o_geq, ↓o_not, ↓o_pick, ↓o_eqInt, ↓o_neInt, ↓o_eqBool, ↓o_neBool, ↓o_eqPtr, ↓o_nePtr, ↓o_eqPtr', ↓o_eqSl, ↓o_neSl, ↓o_eqStr, ↓o_neStr, ↓o_len, ↓o_lenS, ↓o_min, ↓o_max, ↓o_extract, ↓o_convInt, ↓cd_true, ↓cd_false, ↓gate_tt, ↓gate_ff, ↓gate_tf, ↓gate_ft, ↓gate_undef, ↓o_bind, ↓stay_v, ↓pop_cons, ↓fin_nil, Option.isNone_none, Option.isNone_some, Bool.not_true, Bool.not_false, Nat.zero_add, decide_true, decide_false, if_true, if_false, Bool.false_eq_true, ↓reduceIte]
      exact k w h.drop.drop.drop.drop
    have hsl := sealB_length (derive l x.l1).1 3 x.p
    generalize hS : sealB (derive l x.l1).1 3 x.p = S at h hsl
    have hop : openB (derive l x.l1).1 S = (x.p, 3, 0) := by rw [← hS]; exact open_seal (by decide) hm
    rw [← hsl] at h
    obtain ⟨sa, sc, rfl, hsc, _, hpos⟩ := osl_shape h
    obtain ⟨sb, rfl⟩ := hpos (by omega)
    have hrs : ∀ {R : HP}, Rds (osl 5 1 (.slice (some ⟨sb, 0, none⟩) S.length sc) S.length (S.map bv) * R) (.slice (some ⟨sb, 0, none⟩) S.length sc) S.length (S.map bv) := Rds.osl.left
    simp only [show decide ((0 : Int) = 0) = true from rfl, decide_eq_false (show ¬ (S.length : Int) < 24 by omega), ↓o_nil, ↓o_field, ↓o_add, ↓o_sub, ↓o_mul, ↓o_lss, ↓o_leq, ↓o_gtr, ↓o_geq, ↓o_not, ↓o_pick, ↓o_eqInt, ↓o_neInt, ↓o_eqBool, ↓o_neBool, ↓o_eqPtr, ↓o_nePtr, ↓o_eqPtr', ↓o_eqSl, ↓o_neSl, ↓o_eqStr, ↓o_neStr, ↓o_len, ↓o_lenS, ↓o_min, ↓o_max, ↓o_extract, ↓o_convInt, ↓cd_true, ↓cd_false, ↓gate_tt, ↓gate_ff, ↓gate_tf, ↓gate_ft, ↓gate_undef, ↓o_bind, ↓stay_v, ↓pop_cons, ↓fin_nil, Option.isNone_none, Option.isNone_some, Bool.not_true, Bool.not_false, Nat.zero_add, decide_true, decide_false, if_true, if_false, Bool.false_eq_true, ↓reduceIte]
    refine ld_agg (b := rb) h ll ?_
    try simp only [↓o_nil, ↓o_field, ↓o_add, ↓o_sub, ↓o_mul, ↓o_lss, ↓o_leq, ↓o_gtr, ↓o_geq, ↓o_not, ↓o_pick, ↓o_eqInt, ↓o_neInt, ↓o_eqBool, ↓o_neBool, ↓o_eqPtr, ↓o_nePtr, ↓o_eqPtr', ↓o_eqSl, ↓o_neSl, ↓o_eqStr, ↓o_neStr, ↓o_len, ↓o_lenS, ↓o_min, ↓o_max, ↓o_extract, ↓o_convInt, ↓cd_true, ↓cd_false, ↓gate_tt, ↓gate_ff, ↓gate_tf, ↓gate_ft, ↓gate_undef, ↓o_bind, ↓stay_v, ↓pop_cons, ↓fin_nil, Option.isNone_none, Option.isNone_some, Bool.not_true, Bool.not_false, Nat.zero_add, decide_true, decide_false, if_true, if_false, Bool.false_eq_true, ↓reduceIte]
    refine ld_in (b := xb) (v := x.v1) h rfl ?_
    refine Derive_spec h hl ok.r1.right.right.right.right.right fun w h => ?_
    try simp only [↓o_nil, ↓o_field, ↓o_add, ↓o_sub, ↓o_mul, ↓o_lss, ↓o_leq, ↓o_gtr, ↓o_geq, ↓o_not, ↓o_pick, ↓o_eqInt, ↓o_neInt, ↓o_eqBool, ↓o_neBool, ↓o_eqPtr, ↓o_nePtr, ↓o_eqPtr', ↓o_eqSl, ↓o_neSl, ↓o_eqStr, ↓o_neStr, ↓o_len, ↓o_lenS, ↓o_min, ↓o_max, ↓o_extract, ↓o_convInt, ↓cd_true, ↓cd_false, ↓gate_tt, ↓gate_ff, ↓gate_tf, ↓gate_ft, ↓gate_undef, ↓o_bind, ↓stay_v, ↓pop_cons, ↓fin_nil, Option.isNone_none, Option.isNone_some, Bool.not_true, Bool.not_false, Nat.zero_add, decide_true, decide_false, if_true, if_false, Bool.false_eq_true, ↓reduceIte]
    refine hash_var h l1 fun ab w h => ?_
    refine ld_agg (b := ab) h z1 ?_
    refine Open_spec h l1 (s := S) hrs.right (by omega) fun pv_ w h => ?_
    rw [hop] at h ⊢
    simp only [↓o_nil, ↓o_field, ↓o_add, ↓o_sub, ↓o_mul, ↓o_lss, ↓o_leq, ↓o_gtr, ↓o_geq, ↓o_not, ↓o_pick, ↓o_eqInt, ↓o_neInt, ↓o_eqBool, ↓o_neBool, ↓o_eqPtr, ↓o_nePtr, ↓o_eqPtr', ↓o_eqSl, ↓o_neSl, ↓o_eqStr, ↓o_neStr, ↓o_len, ↓o_lenS, ↓o_min, ↓o_max, ↓o_extract, ↓o_convInt, ↓cd_true, ↓cd_false, ↓gate_tt, ↓gate_ff, ↓gate_tf, ↓gate_ft, ↓gate_undef, ↓o_bind, ↓stay_v, ↓pop_cons, ↓fin_nil, Option.isNone_none, Option.isNone_some, Bool.not_true, Bool.not_false, Nat.zero_add, decide_true, decide_false, if_true, if_false, Bool.false_eq_true, ↓reduceIte]
    refine ld_agg (b := jb) h z2 ?_
    refine Open_spec h l2 (s := S) hrs.right.right (by omega) fun ov w h => ?_
    simp only [↓o_nil, ↓o_field, ↓o_add, ↓o_sub, ↓o_mul, ↓o_lss, ↓o_leq, ↓o_gtr, ↓o_geq, ↓o_not, ↓o_pick, ↓o_eqInt, ↓o_neInt, ↓o_eqBool, ↓o_neBool, ↓o_eqPtr, ↓o_nePtr, ↓o_eqPtr', ↓o_eqSl, ↓o_neSl, ↓o_eqStr, ↓o_neStr, ↓o_len, ↓o_lenS, ↓o_min, ↓o_max, ↓o_extract, ↓o_convInt, ↓cd_true, ↓cd_false, ↓gate_tt, ↓gate_ff, ↓gate_tf, ↓gate_ft, ↓gate_undef, ↓o_bind, ↓stay_v, ↓pop_cons, ↓fin_nil, Option.isNone_none, Option.isNone_some, Bool.not_true, Bool.not_false, Nat.zero_add, decide_true, decide_false, if_true, if_false, Bool.false_eq_true, ↓reduceIte]
    refine buildSlice_sl (e := 5) (cs := #[bv 116]) h (fun w => by kernel_rfl) fun tb w h => ?_
    have h := osl_of (n := 1) (sz := 1) (xs := [bv 116]) h rfl (by omega)
    try simp only [↓o_nil, ↓o_field, ↓o_add, ↓o_sub, ↓o_mul, ↓o_lss, ↓o_leq, ↓o_gtr, ↓o_geq, ↓o_not, ↓o_pick, ↓o_eqInt, ↓o_neInt, ↓o_eqBool, ↓o_neBool, ↓o_eqPtr, ↓o_nePtr, ↓o_eqPtr', ↓o_eqSl, ↓o_neSl, ↓o_eqStr, ↓o_neStr, ↓o_len, ↓o_lenS, ↓o_min, ↓o_max, ↓o_extract, ↓o_convInt, ↓cd_true, ↓cd_false, ↓gate_tt, ↓gate_ff, ↓gate_tf, ↓gate_ft, ↓gate_undef, ↓o_bind, ↓stay_v, ↓pop_cons, ↓fin_nil, Option.isNone_none, Option.isNone_some, Bool.not_true, Bool.not_false, Nat.zero_add, decide_true, decide_false, if_true, if_false, Bool.false_eq_true, ↓reduceIte]
    rw [i64_of (by omega) (by omega), show (S.length : Int) - 16 = ((S.length - 16 : Nat) : Int) by omega, o_slice_h (by omega) (by omega)]
    simp only [Int.toNat_natCast, cutA0]
    have hml : (S.take (S.length - 16)).length = S.length - 16 := by rw [List.length_take]; omega
    have hbody : ∀ {R : HP}, Rds (osl 5 1 (.slice (some ⟨sb, 0, none⟩) S.length sc) S.length (S.map bv) * R) (.slice (some ⟨sb, 0, none⟩) (S.length - 16) sc) (S.length - 16) ((S.take (S.length - 16)).map bv) := fun {R} E w hs' => by
      have h4 := RdS.cut (hrs E w hs') (lo := 0) (hi := S.length - 16) (by simp) (by omega) (by omega)
      rw [cutA0] at h4
      rw [List.map_take]
      simpa using h4
    have hbig : ∀ {X Y Z U R : HP}, Rds (X * (Y * (Z * (U * (osl 5 1 (.slice (some ⟨sb, 0, none⟩) S.length sc) S.length (S.map bv) * R))))) (.slice (some ⟨sb, 0, none⟩) (S.length - 16) sc) (S.length - 16) ((S.take (S.length - 16)).map bv) := hbody.right.right.right.right
    refine append_sl (v := .slice (some ⟨tb, 0, none⟩) 1 1) h ((S.take (S.length - 16)).map bv) (k' := S.length - 16) (by rw [List.length_map, hml]; omega) (hbig.win h) (bv_one _) (by omega) (by omega) fun bo w h => ?_
    rw [o_sliceA]
    have e116 : [bv 116] ++ (S.take (S.length - 16)).map bv = (116 :: S.take (S.length - 16)).map bv := rfl
    have el116 : 1 + (S.length - 16) = (116 :: S.take (S.length - 16)).length := by rw [List.length_cons, hml]; omega
    rw [e116, el116] at h
    have hj : ∀ {X Y Z U V R : HP}, Rds (X * (Y * (Z * (U * (V * (pts jb (.cells ((derive l x.l2).1.map bv).toArray 23 (0, 0)) * R)))))) (.slice (some ⟨jb, 0, none⟩) 32 32) (derive l x.l2).1.length ((derive l x.l2).1.map bv) := fun {X Y Z U V R} => by rw [l2]; exact rds_block (b := jb) (Nat.le_refl _)
    refine Tag_spec h (key := (derive l x.l2).1) (b := 116 :: S.take (S.length - 16)) hj Rds.osl.left (by omega) (by rw [← el116]; omega) fun w h => ?_
    have htl := tag_length (derive l x.l2).1 (116 :: S.take (S.length - 16))
    refine hash_var h htl fun gb w h => ?_
    refine dr_sl h fun w h _ => ?_
    simp only [show decide ((0 : Int) = 0) = true from rfl, show decide (((3 : Nat) : Int) = 3) = true from rfl, ↓o_nil, ↓o_field, ↓o_add, ↓o_sub, ↓o_mul, ↓o_lss, ↓o_leq, ↓o_gtr, ↓o_geq, ↓o_not, ↓o_pick, ↓o_eqInt, ↓o_neInt, ↓o_eqBool, ↓o_neBool, ↓o_eqPtr, ↓o_nePtr, ↓o_eqPtr', ↓o_eqSl, ↓o_neSl, ↓o_eqStr, ↓o_neStr, ↓o_len, ↓o_lenS, ↓o_min, ↓o_max, ↓o_extract, ↓o_convInt, ↓cd_true, ↓cd_false, ↓gate_tt, ↓gate_ff, ↓gate_tf, ↓gate_ft, ↓gate_undef, ↓o_bind, ↓stay_v, ↓pop_cons, ↓fin_nil, Option.isNone_none, Option.isNone_some, Bool.not_true, Bool.not_false, Nat.zero_add, decide_true, decide_false, if_true, if_false, Bool.false_eq_true, ↓reduceIte]
    refine ld_in (b := xb) (v := x.v3) h rfl ?_
    have hp1 : ∀ {X1 X2 X3 X4 X5 X6 X7 X8 X9 X10 : HP}, Rds (X1 * (X2 * (X3 * (X4 * (X5 * (X6 * (X7 * (X8 * (X9 * (X10 * H)))))))))) x.v3 x.p.length (x.p.map bv) := ok.r3.right.right.right.right.right.right.right.right.right.right
    have hpv : ∀ {X1 X2 X3 R : HP}, Rds (X1 * (X2 * (X3 * (osl 5 1 pv_ x.p.length (x.p.map bv) * R)))) pv_ x.p.length (x.p.map bv) := Rds.osl.left.right.right.right
    refine sameBytes_spec h hpv hp1 fun w h => ?_
    simp only [decide_true, ↓o_nil, ↓o_field, ↓o_add, ↓o_sub, ↓o_mul, ↓o_lss, ↓o_leq, ↓o_gtr, ↓o_geq, ↓o_not, ↓o_pick, ↓o_eqInt, ↓o_neInt, ↓o_eqBool, ↓o_neBool, ↓o_eqPtr, ↓o_nePtr, ↓o_eqPtr', ↓o_eqSl, ↓o_neSl, ↓o_eqStr, ↓o_neStr, ↓o_len, ↓o_lenS, ↓o_min, ↓o_max, ↓o_extract, ↓o_convInt, ↓cd_true, ↓cd_false, ↓gate_tt, ↓gate_ff, ↓gate_tf, ↓gate_ft, ↓gate_undef, ↓o_bind, ↓stay_v, ↓pop_cons, ↓fin_nil, Option.isNone_none, Option.isNone_some, Bool.not_true, Bool.not_false, Nat.zero_add, decide_true, decide_false, if_true, if_false, Bool.false_eq_true, ↓reduceIte]
    rw [o_sliceA_h (by decide) (by decide)]
    try simp only [↓o_nil, ↓o_field, ↓o_add, ↓o_sub, ↓o_mul, ↓o_lss, ↓o_leq, ↓o_gtr, ↓o_geq, ↓o_not, ↓o_pick, ↓o_eqInt, ↓o_neInt, ↓o_eqBool, ↓o_neBool, ↓o_eqPtr, ↓o_nePtr, ↓o_eqPtr', ↓o_eqSl, ↓o_neSl, ↓o_eqStr, ↓o_neStr, ↓o_len, ↓o_lenS, ↓o_min, ↓o_max, ↓o_extract, ↓o_convInt, ↓cd_true, ↓cd_false, ↓gate_tt, ↓gate_ff, ↓gate_tf, ↓gate_ft, ↓gate_undef, ↓o_bind, ↓stay_v, ↓pop_cons, ↓fin_nil, Option.isNone_none, Option.isNone_some, Bool.not_true, Bool.not_false, Nat.zero_add, decide_true, decide_false, if_true, if_false, Bool.false_eq_true, ↓reduceIte]
    rw [i64_of (by omega) (by omega), show (S.length : Int) - 16 = ((S.length - 16 : Nat) : Int) by omega, o_slice_l (by omega) (by omega)]
    simp only [Int.toNat_natCast, show (16 : Int).toNat = 16 from rfl]
    have hg16 : ∀ {R : HP}, Rds (pts gb (.cells ((tag (derive l x.l2).1 (116 :: S.take (S.length - 16))).map bv).toArray 23 (0, 0)) * R) (.slice (some ⟨gb, 0, none⟩) 16 32) ((tag (derive l x.l2).1 (116 :: S.take (S.length - 16))).take 16).length (((tag (derive l x.l2).1 (116 :: S.take (S.length - 16))).take 16).map bv) := fun {R} E w hs' => by
      have h5 : Rds (pts gb (.cells ((tag (derive l x.l2).1 (116 :: S.take (S.length - 16))).map bv).toArray 23 (0, 0)) * R) (.slice (some ⟨gb, 0, none⟩) 32 32) 32 ((tag (derive l x.l2).1 (116 :: S.take (S.length - 16))).map bv) := rds_block (b := gb) (Nat.le_refl _)
      have h4 := RdS.cut (h5 E w hs') (lo := 0) (hi := 16) (by rw [List.length_map]; exact htl) (by omega) (by omega)
      rw [cutA0] at h4
      rw [List.length_take, htl, List.map_take]
      simpa using h4
    have hdrop : ∀ {X Y Z U V R : HP}, Rds (X * (Y * (Z * (U * (V * (osl 5 1 (.slice (some ⟨sb, 0, none⟩) S.length sc) S.length (S.map bv) * R)))))) (.slice (cutA (some ⟨sb, 0, none⟩) sc (S.length - 16) 1) (S.length - (S.length - 16)) (sc - (S.length - 16))) (S.drop (S.length - 16)).length ((S.drop (S.length - 16)).map bv) := fun {X Y Z U V R} => by
      have h5 : Rds (osl 5 1 (.slice (some ⟨sb, 0, none⟩) S.length sc) S.length (S.map bv) * R) _ _ _ := Rds.cutB (hrs (R := R)) rfl (lo := S.length - 16) (by omega)
      rw [List.length_drop]
      exact h5.right.right.right.right.right
    refine sameBytes_spec h hg16 hdrop fun w h => ?_
    refine st_in (b := xb) (v := x.v3) h rfl ?_
    try simp only [↓o_nil, ↓o_field, ↓o_add, ↓o_sub, ↓o_mul, ↓o_lss, ↓o_leq, ↓o_gtr, ↓o_geq, ↓o_not, ↓o_pick, ↓o_eqInt, ↓o_neInt, ↓o_eqBool, ↓o_neBool, ↓o_eqPtr, ↓o_nePtr, ↓o_eqPtr', ↓o_eqSl, ↓o_neSl, ↓o_eqStr, ↓o_neStr, ↓o_len, ↓o_lenS, ↓o_min, ↓o_max, ↓o_extract, ↓o_convInt, ↓cd_true, ↓cd_false, ↓gate_tt, ↓gate_ff, ↓gate_tf, ↓gate_ft, ↓gate_undef, ↓o_bind, ↓stay_v, ↓pop_cons, ↓fin_nil, Option.isNone_none, Option.isNone_some, Bool.not_true, Bool.not_false, Nat.zero_add, decide_true, decide_false, if_true, if_false, Bool.false_eq_true, ↓reduceIte]
    rw [← open_zero (by omega) (by omega)]
    simp only [beq_self_eq_true, ↓o_nil, ↓o_field, ↓o_add, ↓o_sub, ↓o_mul, ↓o_lss, ↓o_leq, ↓o_gtr, ↓o_geq, ↓o_not, ↓o_pick, ↓o_eqInt, ↓o_neInt, ↓o_eqBool, ↓o_neBool, ↓o_eqPtr, ↓o_nePtr, ↓o_eqPtr', ↓o_eqSl, ↓o_neSl, ↓o_eqStr, ↓o_neStr, ↓o_len, ↓o_lenS, ↓o_min, ↓o_max, ↓o_extract, ↓o_convInt, ↓cd_true, ↓cd_false, ↓gate_tt, ↓gate_ff, ↓gate_tf, ↓gate_ft, ↓gate_undef, ↓o_bind, ↓stay_v, ↓pop_cons, ↓fin_nil, Option.isNone_none, Option.isNone_some, Bool.not_true, Bool.not_false, Nat.zero_add, decide_true, decide_false, if_true, if_false, Bool.false_eq_true, ↓reduceIte]
    exact k w h.drop.drop.drop.drop.drop.drop.drop.drop.drop.drop
  try simp only [↓o_nil, ↓o_field, ↓o_add, ↓o_sub, ↓o_mul, ↓o_lss, ↓o_leq, ↓o_gtr, ↓o_geq, ↓o_not, ↓o_pick, ↓o_eqInt, ↓o_neInt, ↓o_eqBool, ↓o_neBool, ↓o_eqPtr, ↓o_nePtr, ↓o_eqPtr', ↓o_eqSl, ↓o_neSl, ↓o_eqStr, ↓o_neStr, ↓o_len, ↓o_lenS, ↓o_min, ↓o_max, ↓o_extract, ↓o_convInt, ↓cd_true, ↓cd_false, ↓gate_tt, ↓gate_ff, ↓gate_tf, ↓gate_ft, ↓gate_undef, ↓o_bind, ↓stay_v, ↓pop_cons, ↓fin_nil, Option.isNone_none, Option.isNone_some, Bool.not_true, Bool.not_false, Nat.zero_add, decide_true, decide_false, if_true, if_false, Bool.false_eq_true, ↓reduceIte]
  by_cases q1 : (derive l x.l1).2 = 0
  · by_cases q2 : (derive l x.l2).2 = 0
    · have hf := hfull q1 q2 w h
      simp only [↓o_nil, ↓o_field, ↓o_add, ↓o_sub, ↓o_mul, ↓o_lss, ↓o_leq, ↓o_gtr, ↓o_geq, ↓o_not, ↓o_pick, ↓o_eqInt, ↓o_neInt, ↓o_eqBool, ↓o_neBool, ↓o_eqPtr, ↓o_nePtr, ↓o_eqPtr', ↓o_eqSl, ↓o_neSl, ↓o_eqStr, ↓o_neStr, ↓o_len, ↓o_lenS, ↓o_min, ↓o_max, ↓o_extract, ↓o_convInt, ↓cd_true, ↓cd_false, ↓gate_tt, ↓gate_ff, ↓gate_tf, ↓gate_ft, ↓gate_undef, ↓o_bind, ↓stay_v, ↓pop_cons, ↓fin_nil, Option.isNone_none, Option.isNone_some, Bool.not_true, Bool.not_false, Nat.zero_add, decide_true, decide_false, if_true, if_false, Bool.false_eq_true, ↓reduceIte] at hf
      simp only [decide_eq_true q1, decide_eq_true q2, ↓o_nil, ↓o_field, ↓o_add, ↓o_sub, ↓o_mul, ↓o_lss, ↓o_leq, ↓o_gtr, ↓o_geq, ↓o_not, ↓o_pick, ↓o_eqInt, ↓o_neInt, ↓o_eqBool, ↓o_neBool, ↓o_eqPtr, ↓o_nePtr, ↓o_eqPtr', ↓o_eqSl, ↓o_neSl, ↓o_eqStr, ↓o_neStr, ↓o_len, ↓o_lenS, ↓o_min, ↓o_max, ↓o_extract, ↓o_convInt, ↓cd_true, ↓cd_false, ↓gate_tt, ↓gate_ff, ↓gate_tf, ↓gate_ft, ↓gate_undef, ↓o_bind, ↓stay_v, ↓pop_cons, ↓fin_nil, Option.isNone_none, Option.isNone_some, Bool.not_true, Bool.not_false, Nat.zero_add, decide_true, decide_false, if_true, if_false, Bool.false_eq_true, ↓reduceIte]
      exact hf
    · simp only [decide_eq_true q1, decide_eq_false q2, ↓o_nil, ↓o_field, ↓o_add, ↓o_sub, ↓o_mul, ↓o_lss, ↓o_leq, ↓o_gtr, ↓o_geq, ↓o_not, ↓o_pick, ↓o_eqInt, ↓o_neInt, ↓o_eqBool, ↓o_neBool, ↓o_eqPtr, ↓o_nePtr, ↓o_eqPtr', ↓o_eqSl, ↓o_neSl, ↓o_eqStr, ↓o_neStr, ↓o_len, ↓o_lenS, ↓o_min, ↓o_max, ↓o_extract, ↓o_convInt, ↓cd_true, ↓cd_false, ↓gate_tt, ↓gate_ff, ↓gate_tf, ↓gate_ft, ↓gate_undef, ↓o_bind, ↓stay_v, ↓pop_cons, ↓fin_nil, Option.isNone_none, Option.isNone_some, Bool.not_true, Bool.not_false, Nat.zero_add, decide_true, decide_false, if_true, if_false, Bool.false_eq_true, ↓reduceIte]
      exact hbad w h
  · simp only [decide_eq_false q1, ↓o_nil, ↓o_field, ↓o_add, ↓o_sub, ↓o_mul, ↓o_lss, ↓o_leq, ↓o_gtr, ↓o_geq, ↓o_not, ↓o_pick, ↓o_eqInt, ↓o_neInt, ↓o_eqBool, ↓o_neBool, ↓o_eqPtr, ↓o_nePtr, ↓o_eqPtr', ↓o_eqSl, ↓o_neSl, ↓o_eqStr, ↓o_neStr, ↓o_len, ↓o_lenS, ↓o_min, ↓o_max, ↓o_extract, ↓o_convInt, ↓cd_true, ↓cd_false, ↓gate_tt, ↓gate_ff, ↓gate_tf, ↓gate_ft, ↓gate_undef, ↓o_bind, ↓stay_v, ↓pop_cons, ↓fin_nil, Option.isNone_none, Option.isNone_some, Bool.not_true, Bool.not_false, Nat.zero_add, decide_true, decide_false, if_true, if_false, Bool.false_eq_true, ↓reduceIte]
    exact hbad w h
end Go.Proofs.YtfmoikocokekhaaDoor.Keyed
