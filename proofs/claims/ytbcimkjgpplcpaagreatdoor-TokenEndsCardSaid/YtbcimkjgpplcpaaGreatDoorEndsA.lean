/-
  Deeds on both stores, opened and done.
-/
import Derived.Test.YtbcimkjgpplcpaaGreatDoorTokP
import Derived.Test.YtbcimkjgpplcpaaGreatDoorTests
import Derived.Test.YtbcimkjgpplcpaaGreatDoorPB
import Derived.Test.YtbcimkjgpplcpaaGreatDoorSortK
import Derived.Test.YtbcimkjgpplcpaaGreatDoorElems
import Derived.Test.YtbcimkjgpplcpaaGreatDoorNamesR
import Derived.Shelf.SlMaps.Clone
set_option linter.all false
set_option maxRecDepth 100000
namespace Go.Proofs.YtbcimkjgpplcpaaGreatDoor.T
open Go Hold Go.ChangeShapes Go.WideShapes
variable {E : World0} {w : World} {H R X : HP} {K : Value → World → Prop}
structure Dd where
  kind : Int
  id : Int
  num : Int
  now : Int
  cl : List UInt8
  sc : UInt8
  v : Value
  ss : List Int
def dcells (x : Dd) : List Value := [.int .i64 x.kind, .int .i64 x.id, .int .i64 x.num, .int .i64 x.now, tv x.cl, bv x.sc, x.v]
/-- What its slice tells; how long it is. -/
structure OkD (H : HP) (x : Dd) : Prop where
  rd : Rds H x.v x.ss.length (x.ss.map iv)
  len : x.ss.length ≤ 9223372036854775807
  cl : x.cl.length ≤ 9223372036854775807
theorem u43 : ∃ f0 f1 f2 f3 f4 f5 f6 : Field, prog.underlying 32 = some (.struct #[f0, f1, f2, f3, f4, f5, f6]) ∧ (f0.type = 3 ∧ f0.offset = 0) ∧ (f1.type = 3 ∧ f1.offset = 1) ∧ (f2.type = 3 ∧ f2.offset = 2) ∧ (f3.type = 3 ∧ f3.offset = 3) ∧ (f4.type = 9 ∧ f4.offset = 4) ∧ (f5.type = 30 ∧ f5.offset = 5) ∧ (f6.type = 23 ∧ f6.offset = 6) :=
  ⟨(prog.fieldsOf 32).toList.getD 0 default, (prog.fieldsOf 32).toList.getD 1 default, (prog.fieldsOf 32).toList.getD 2 default, (prog.fieldsOf 32).toList.getD 3 default, (prog.fieldsOf 32).toList.getD 4 default, (prog.fieldsOf 32).toList.getD 5 default, (prog.fieldsOf 32).toList.getD 6 default, by kernel_rfl, ⟨by kernel_rfl, by kernel_rfl⟩, ⟨by kernel_rfl, by kernel_rfl⟩, ⟨by kernel_rfl, by kernel_rfl⟩, ⟨by kernel_rfl, by kernel_rfl⟩, ⟨by kernel_rfl, by kernel_rfl⟩, ⟨by kernel_rfl, by kernel_rfl⟩, ⟨by kernel_rfl, by kernel_rfl⟩⟩
section
variable {W : World} {H : Type} {enc : TypeId × Value → H}
theorem deed_of {n : Nat} {cs : List Value} {D : DataW H × List MemPlace} (h : DataW.trod enc prog W 0 (fun _ => true) true n 32 cs = some D) : ∃ x : {x : Dd // OkD (old W) x}, cs = dcells x.1 := by
  obtain ⟨f0, f1, f2, f3, f4, f5, f6, hu, ⟨t0, o0⟩, ⟨t1, o1⟩, ⟨t2, o2⟩, ⟨t3, o3⟩, ⟨t4, o4⟩, ⟨t5, o5⟩, ⟨t6, o6⟩⟩ := u43
  obtain ⟨xs, m, _, _, hl, hlen, hf⟩ := DataW.trod_struct hu h
  rw [show prog.cellsOf 32 = 7 by kernel_rfl] at hl
  have c3 : prog.cellsOf 3 = 1 := by kernel_rfl
  have c9 : prog.cellsOf 9 = 1 := by kernel_rfl
  have c25 : prog.cellsOf 30 = 1 := by kernel_rfl
  have c41 : prog.cellsOf 23 = 1 := by kernel_rfl
  match xs, hlen, cs, hl with
  | [y0, y1, y2, y3, y4, y5, y6], _, [a, b, c, d, e, f, g], _ =>
    have g0 := hf 0 f0 rfl
    have g1 := hf 1 f1 rfl
    have g2 := hf 2 f2 rfl
    have g3 := hf 3 f3 rfl
    have g4 := hf 4 f4 rfl
    have g5 := hf 5 f5 rfl
    have g6 := hf 6 f6 rfl
    simp only [t0, o0, t1, o1, t2, o2, t3, o3, t4, o4, t5, o5, t6, o6, c3, c9, c25, c41, List.drop, List.take] at g0 g1 g2 g3 g4 g5 g6
    obtain ⟨n0, e0, _⟩ := DataW.trod_int ul_3.ul g0
    obtain ⟨n1, e1, _⟩ := DataW.trod_int ul_3.ul g1
    obtain ⟨n2, e2, _⟩ := DataW.trod_int ul_3.ul g2
    obtain ⟨n3, e3, _⟩ := DataW.trod_int ul_3.ul g3
    obtain ⟨s4, e4, _, z4⟩ := DataW.trod_string ul_9.ul g4
    obtain ⟨n5, e5, _, hw5⟩ := DataW.trod_int ul_30.ul g5
    obtain ⟨v, l, e6, h6, z6⟩ := ints_of (t := 23) (e := 3) (by kernel_rfl) (by kernel_rfl) (by kernel_rfl) g6
    obtain ⟨b5, hb5⟩ := u8_wf hw5
    simp only [List.cons.injEq, and_true] at e0 e1 e2 e3 e4 e5 e6
    rw [hb5] at e5
    subst e0 e1 e2 e3 e4 e5 e6
    exact ⟨⟨⟨n0, n1, n2, n3, s4.data.toList, b5, g, l⟩, ⟨h6, z6, z4⟩⟩, by simp [dcells, tv]⟩
variable {r : Reach} {b0 : Nat} {v : Value} {d : DataW H} {p : List MemPlace}
theorem open_deeds (hv : Value.okWide prog W r b0 22 v) (h : DataW.Trod enc prog W 0 (fun _ => true) true 22 v d p) (_hw : ∀ n ∈ d.weights prog 22, n ≤ 140737488351232) :
    ∃ l : List Dd, Rds (old W) v l.length (l.flatMap dcells) ∧ l.length ≤ 9223372036854775807 ∧ ∀ x ∈ l, OkD (old W) x := by
  obtain ⟨l, h1, h2⟩ := open_elems (t := 22) (e := 32) (k := 7) (cells := fun x : {x : Dd // OkD (old W) x} => dcells x.1) (by kernel_rfl) (by kernel_rfl) (by omega) (fun _ => rfl) deed_of hv h
  refine ⟨l.map (·.1), ?_, by simpa using h2, ?_⟩
  · rw [List.length_map, List.flatMap_map]
    exact h1
  · intro x hx
    obtain ⟨y, _, rfl⟩ := List.mem_map.1 hx
    exact y.2
end
end Go.Proofs.YtbcimkjgpplcpaaGreatDoor.T

/-
  The reference's comparison of whole numbers.
-/
set_option linter.all false
set_option maxRecDepth 100000
namespace Go.Proofs.YtbcimkjgpplcpaaGreatDoor
open Go Hold
variable {E : World0} {w : World} {H R X : HP} {K : Value → World → Prop}
theorem SameInts_specG (h : sat E w H) {v u : Value} {l l' : List Int} (hv : Rds H v l.length (l.map iv)) (hu : Rds H u l'.length (l'.map iv)) (hl : l.length ≤ 1000000) (k : ∀ r w', (l = l' → r = true) → sat E w' H → K (.bool r) w') : Calls prog 28 #[v, u] w (Ret K) := by
  obtain ⟨a, c, rfl, hc, hv, ha⟩ := hv.shape h
  obtain ⟨a', c', rfl, hc', hu, ha'⟩ := hu.shape h
  refine c28 ?_
  unfold B28
  rw [o_len, o_len, o_neInt]
  by_cases hle : l'.length = l.length
  case neg =>
    rw [show (!decide ((l.length : Int) = l'.length)) = true by simp; omega, cd_true]
    exact k _ _ (fun e => absurd (by rw [e]) hle) h
  rw [show (!decide ((l.length : Int) = l'.length)) = false by simp; omega, cd_false]
  refine lp_nat (fun n σ w => ∃ i : Nat, σ = [.int .i64 i] ∧ n = l.length - i ∧ i ≤ l.length ∧ sat E w H) l.length ⟨0, rfl, rfl, by omega, h⟩ ?_
  clear h
  rintro n σ w again ⟨i, rfl, rfl, hi, h⟩ hag
  rw [pop_cons, fin_nil, o_len, o_lss]
  refine cd_dec (fun hlt => ?_) (fun hge => ?_)
  · have hi1 : i < l.length := by omega
    have hx : l[i]? = some l[i] := List.getElem?_eq_getElem hi1
    generalize l[i] = x at hx
    have hi2 : i < l'.length := by omega
    have hy : l'[i]? = some l'[i] := List.getElem?_eq_getElem hi2
    generalize l'[i] = y at hy
    obtain ⟨b1, o1, _, e1, _, hv⟩ := hv.opened h (by simp; omega)
    cases e1
    obtain ⟨b2, o2, _, e2, _, hu⟩ := hu.opened h (by simp; omega)
    cases e2
    have hx' : (l.map iv)[i]? = some (.int .i64 x) := by rw [List.getElem?_map, hx]; rfl
    have hy' : (l'.map iv)[i]? = some (.int .i64 y) := by rw [List.getElem?_map, hy]; rfl
    refine dr_sl h fun w h _ => ?_
    rw [o_index (by omega) (by omega), o_index (by omega) (by omega)]
    simp only [↓o_nil, ↓o_field, ↓o_add, ↓o_sub, ↓o_mul, ↓o_lss, ↓o_leq, ↓o_gtr, ↓o_geq, ↓o_not, ↓o_pick, ↓o_eqInt, ↓o_neInt, ↓o_eqBool, ↓o_neBool, ↓o_eqPtr, ↓o_nePtr, ↓o_eqPtr', ↓o_eqSl, ↓o_neSl, ↓o_eqStr, ↓o_neStr, ↓o_len, ↓o_lenS, ↓o_min, ↓o_max, ↓o_extract, ↓o_convInt, ↓cd_true, ↓cd_false, ↓gate_tt, ↓gate_ff, ↓gate_tf, ↓gate_ft, ↓gate_undef, ↓o_bind, ↓stay_v, ↓pop_cons, ↓fin_nil, Option.isNone_none, Option.isNone_some, Bool.not_true, Bool.not_false, Nat.zero_add, decide_true, decide_false, if_true, if_false, Bool.false_eq_true, ↓reduceIte]
    refine ld_rd h hv i (by rw [Int.toNat_natCast]; omega) hx' ?_
    try simp only [↓o_nil, ↓o_field, ↓o_add, ↓o_sub, ↓o_mul, ↓o_lss, ↓o_leq, ↓o_gtr, ↓o_geq, ↓o_not, ↓o_pick, ↓o_eqInt, ↓o_neInt, ↓o_eqBool, ↓o_neBool, ↓o_eqPtr, ↓o_nePtr, ↓o_eqPtr', ↓o_eqSl, ↓o_neSl, ↓o_eqStr, ↓o_neStr, ↓o_len, ↓o_lenS, ↓o_min, ↓o_max, ↓o_extract, ↓o_convInt, ↓cd_true, ↓cd_false, ↓gate_tt, ↓gate_ff, ↓gate_tf, ↓gate_ft, ↓gate_undef, ↓o_bind, ↓stay_v, ↓pop_cons, ↓fin_nil, Option.isNone_none, Option.isNone_some, Bool.not_true, Bool.not_false, Nat.zero_add, decide_true, decide_false, if_true, if_false, Bool.false_eq_true, ↓reduceIte]
    refine ld_rd h hu i (by rw [Int.toNat_natCast]; omega) hy' ?_
    rw [o_neInt]
    by_cases hxy : x = y
    · rw [show (!decide (x = y)) = false by simp [hxy], cd_false]
      try rw [o_add]
      rw [i64_of (by omega) (by omega)]
      exact hag (l.length - (i + 1)) _ _ (by omega) ⟨i + 1, rfl, rfl, by omega, h⟩
    · rw [show (!decide (x = y)) = true by simp [hxy], cd_true]
      exact k _ _ (fun e => by rw [e, hy] at hx; exact absurd (Option.some.inj hx).symm hxy) h
  · exact k _ _ (fun _ => rfl) h
end Go.Proofs.YtbcimkjgpplcpaaGreatDoor

/-
  A deed on both stores: what becomes of the store; the reference answers.
-/
set_option linter.all false
set_option maxRecDepth 100000
namespace Go.Proofs.YtbcimkjgpplcpaaGreatDoor.T
open Go Hold
variable {E : World0} {w : World} {H R X : HP} {K : Value → World → Prop}
theorem flds27 : ∃ f g h i j : Field, (prog.fieldsOf 35).toList = [f, g, h, i, j] ∧ ((f.name == "_") = false ∧ f.type = 3 ∧ f.offset = 0) ∧ ((g.name == "_") = false ∧ g.type = 3 ∧ g.offset = 1) ∧ ((h.name == "_") = false ∧ h.type = 9 ∧ h.offset = 2) ∧ ((i.name == "_") = false ∧ i.type = 30 ∧ i.offset = 3) ∧ ((j.name == "_") = false ∧ j.type = 3 ∧ j.offset = 4) :=
  ⟨(prog.fieldsOf 35).toList.getD 0 default, (prog.fieldsOf 35).toList.getD 1 default, (prog.fieldsOf 35).toList.getD 2 default, (prog.fieldsOf 35).toList.getD 3 default, (prog.fieldsOf 35).toList.getD 4 default, by kernel_rfl, ⟨by kernel_rfl, by kernel_rfl, by kernel_rfl⟩, ⟨by kernel_rfl, by kernel_rfl, by kernel_rfl⟩, ⟨by kernel_rfl, by kernel_rfl, by kernel_rfl⟩, ⟨by kernel_rfl, by kernel_rfl, by kernel_rfl⟩, ⟨by kernel_rfl, by kernel_rfl, by kernel_rfl⟩⟩
theorem flds29 : ∃ f g h i : Field, (prog.fieldsOf 49).toList = [f, g, h, i] ∧ ((f.name == "_") = false ∧ f.type = 3 ∧ f.offset = 0) ∧ ((g.name == "_") = false ∧ g.type = 3 ∧ g.offset = 1) ∧ ((h.name == "_") = false ∧ h.type = 30 ∧ h.offset = 2) ∧ ((i.name == "_") = false ∧ i.type = 3 ∧ i.offset = 3) :=
  ⟨(prog.fieldsOf 49).toList.getD 0 default, (prog.fieldsOf 49).toList.getD 1 default, (prog.fieldsOf 49).toList.getD 2 default, (prog.fieldsOf 49).toList.getD 3 default, by kernel_rfl, ⟨by kernel_rfl, by kernel_rfl, by kernel_rfl⟩, ⟨by kernel_rfl, by kernel_rfl, by kernel_rfl⟩, ⟨by kernel_rfl, by kernel_rfl, by kernel_rfl⟩, ⟨by kernel_rfl, by kernel_rfl, by kernel_rfl⟩⟩
theorem run_eq9 (d : Nat) (a b : List UInt8) (w : World) : (Op.equalIn (d + 1) 9 (tv a) (tv b)).run prog w = .ok (decide (a = b)) w := by
  have := run_equalIn_string (P := prog) w d 9 ⟨a.toArray⟩ ⟨b.toArray⟩ ul_9.ul
  rw [beq_lists] at this
  exact this
theorem run_eqB (d : Nat) (a b : UInt8) (w : World) : (Op.equalIn (d + 1) 30 (bv a) (bv b)).run prog w = .ok (decide (a = b)) w := by
  have := run_equalIn_int (P := prog) w d 30 .u8 .u8 (a.toNat : Int) (b.toNat : Int) ul_30.ul
  unfold bv
  rw [this]
  congr 1
  rw [Bool.eq_iff_iff, beq_iff_eq, decide_eq_true_iff]
  constructor
  · intro h; exact UInt8.toNat.inj (by omega)
  · rintro rfl; rfl
theorem run_eqF (x y : Fam) (w : World) : (Op.eqFields 9999 (fcells x).toArray (fcells y).toArray (prog.fieldsOf 35).toList).run prog w = .ok (decide (x = y)) w := by
  obtain ⟨f, g, h, i, j, e, ⟨h1, t1, o1⟩, ⟨h2, t2, o2⟩, ⟨h3, t3, o3⟩, ⟨h4, t4, o4⟩, ⟨h5, t5, o5⟩⟩ := flds27
  rw [e]
  have h9 := run_eqField (P := prog) (w := w) (d := 9999) (xs := (fcells x).toArray) (ys := (fcells y).toArray) (fs := [g, h, i, j]) h1 (a := .int .i64 x.id) (b := .int .i64 y.id) (by rw [t1, o1]; exact run_part1 rfl) (by rw [t1, o1]; exact run_part1 rfl) (by rw [t1]; exact run_equalIn_int w 9998 3 .i64 .i64 x.id y.id ul_3.ul)
    (run_eqField h2 (a := .int .i64 x.ses) (b := .int .i64 y.ses) (by rw [t2, o2]; exact run_part1 rfl) (by rw [t2, o2]; exact run_part1 rfl) (by rw [t2]; exact run_equalIn_int w 9998 3 .i64 .i64 x.ses y.ses ul_3.ul)
      (run_eqField h3 (a := tv x.cl) (b := tv y.cl) (by rw [t3, o3]; exact run_part1 rfl) (by rw [t3, o3]; exact run_part1 rfl) (by rw [t3]; exact run_eq9 9998 _ _ w)
        (run_eqField h4 (a := bv x.sc) (b := bv y.sc) (by rw [t4, o4]; exact run_part1 rfl) (by rw [t4, o4]; exact run_part1 rfl) (by rw [t4]; exact run_eqB 9998 _ _ w)
          (run_eqField h5 (a := .int .i64 x.nx) (b := .int .i64 y.nx) (by rw [t5, o5]; exact run_part1 rfl) (by rw [t5, o5]; exact run_part1 rfl) (by rw [t5]; exact run_equalIn_int w 9998 3 .i64 .i64 x.nx y.nx ul_3.ul) run_eqNone))))
  rw [h9]
  congr 1
  rw [Bool.eq_iff_iff]
  obtain ⟨a, b, c, d, e⟩ := x
  obtain ⟨a', b', c', d', e'⟩ := y
  simp [and_assoc]
theorem run_eqK (x y : Tok) (w : World) : (Op.eqFields 9999 (kcells x).toArray (kcells y).toArray (prog.fieldsOf 49).toList).run prog w = .ok (decide (x = y)) w := by
  obtain ⟨f, g, h, i, e, ⟨h1, t1, o1⟩, ⟨h2, t2, o2⟩, ⟨h3, t3, o3⟩, ⟨h4, t4, o4⟩⟩ := flds29
  rw [e]
  have h9 := run_eqField (P := prog) (w := w) (d := 9999) (xs := (kcells x).toArray) (ys := (kcells y).toArray) (fs := [g, h, i]) h1 (a := .int .i64 x.id) (b := .int .i64 y.id) (by rw [t1, o1]; exact run_part1 rfl) (by rw [t1, o1]; exact run_part1 rfl) (by rw [t1]; exact run_equalIn_int w 9998 3 .i64 .i64 x.id y.id ul_3.ul)
    (run_eqField h2 (a := .int .i64 x.fam) (b := .int .i64 y.fam) (by rw [t2, o2]; exact run_part1 rfl) (by rw [t2, o2]; exact run_part1 rfl) (by rw [t2]; exact run_equalIn_int w 9998 3 .i64 .i64 x.fam y.fam ul_3.ul)
      (run_eqField h3 (a := bv x.sc) (b := bv y.sc) (by rw [t3, o3]; exact run_part1 rfl) (by rw [t3, o3]; exact run_part1 rfl) (by rw [t3]; exact run_eqB 9998 _ _ w)
        (run_eqField h4 (a := .int .i64 x.til) (b := .int .i64 y.til) (by rw [t4, o4]; exact run_part1 rfl) (by rw [t4, o4]; exact run_part1 rfl) (by rw [t4]; exact run_equalIn_int w 9998 3 .i64 .i64 x.til y.til ul_3.ul) run_eqNone)))
  rw [h9]
  congr 1
  rw [Bool.eq_iff_iff]
  obtain ⟨a, b, c, d⟩ := x
  obtain ⟨a', b', c', d'⟩ := y
  simp [and_assoc]
theorem eqF {x y : Fam} {xo yo : Operand} : pvv prog (oEq .eql 35 xo yo (.agg (fcells x).toArray) (.agg (fcells y).toArray)) w K = K (.bool (decide (x = y))) w := o_eqStruct (by kernel_rfl) (by kernel_rfl) (by kernel_rfl) (run_eqF x y)
theorem eqK {x y : Tok} {xo yo : Operand} : pvv prog (oEq .eql 49 xo yo (.agg (kcells x).toArray) (.agg (kcells y).toArray)) w K = K (.bool (decide (x = y))) w := o_eqStruct (by kernel_rfl) (by kernel_rfl) (by kernel_rfl) (run_eqK x y)
def doT (s : St) (x : Dd) : St :=
  if x.kind = 0 then (grantT s x.id x.cl x.sc x.now).1 else if x.kind = 1 then (refT s x.id x.num x.now).1 else if x.kind = 2 then s else if x.kind = 3 then (exT s x.id x.sc x.now).1
  else if x.kind = 4 then (endT s x.id).1 else if x.kind = 5 then dropAll s (s.f.filter (esP x.ss)) else if x.kind = 6 then dropAll s (s.f.filter (ecP x.cl x.ss))
  else if timeE s x.now = 0 then swT s x.now else s
theorem ok_do {s : St} {m : Nat} {x : Dd} (ok : OkS s m) : OkS (doT s x) (m + 2) := by
  unfold doT
  repeat' split
  · exact ok_grant ok
  · exact ok_up (ok_ref ok)
  · exact ok_up (ok_up ok)
  · exact ok_up (ok_ex ok)
  · exact ok_up (ok_up (ok_end ok))
  · exact ok_up (ok_up (ok_dropAll _ ok))
  · exact ok_up (ok_up (ok_dropAll _ ok))
  · rename_i h
    exact ok_up (ok_up (ok_sw ok h))
  · exact ok_up (ok_up ok)
abbrev both (p b c q : Nat) (s : St) (rs : Rs) (vf vt : Value) (R : HP) : HP := sI p s b c (rI q rs vf vt R)
theorem both_R {p b c q : Nat} {s : St} {rs : Rs} {vf vt : Value} (h : sat E w (X * both p b c q s rs vf vt R)) : sat E w (rI q rs vf vt (X * sI p s b c R)) := by
  unfold both at h
  unfold sI rI at h ⊢
  exact h.perm (by ac_rfl)
theorem both_I {p b c q : Nat} {s : St} {rs : Rs} {vf vt : Value} (h : sat E w (rI q rs vf vt (X * sI p s b c R))) : sat E w (X * both p b c q s rs vf vt R) := by
  unfold both
  unfold sI rI at h ⊢
  exact h.perm (by ac_rfl)
theorem last_cmp {r : Bool} {e e' : Int} {p q : Operand} (k : ∀ r', K (.bool r') w) :
    gate (some (.bool r, true)) (fun K => K (.int .i64 e) w) w fun t_25 w =>
    gate (some (.bool r, true)) (fun K => K (.int .i64 e') w) w fun t_26 w =>
    gate (some (.bool r, true)) (fun K => pvv prog (oEq .eql 36 p q t_25 t_26) w K) w fun t_27 w =>
    pv prog (oPick (.bool r) t_27 (.bool false)) w fun t_28 w => K t_28 w := by
  cases r
  · simp only [↓o_nil, ↓o_field, ↓o_add, ↓o_sub, ↓o_mul, ↓o_lss, ↓o_leq, ↓o_gtr, ↓o_geq, ↓o_not, ↓o_pick, ↓o_eqInt, ↓o_neInt, ↓o_eqBool, ↓o_neBool, ↓o_eqPtr, ↓o_nePtr, ↓o_eqPtr', ↓o_eqSl, ↓o_neSl, ↓o_eqStr, ↓o_neStr, ↓o_len, ↓o_lenS, ↓o_min, ↓o_max, ↓o_extract, ↓o_convInt, ↓cd_true, ↓cd_false, ↓gate_tt, ↓gate_ff, ↓gate_tf, ↓gate_ft, ↓gate_undef, ↓o_bind, ↓stay_v, ↓pop_cons, ↓fin_nil, Option.isNone_none, Option.isNone_some, Bool.not_true, Bool.not_false, Nat.zero_add, decide_true, decide_false, if_true, if_false, Bool.false_eq_true, ↓reduceIte]
    exact k _
  · by_cases h2 : e = e'
    · simp only [decide_eq_true h2, ↓o_nil, ↓o_field, ↓o_add, ↓o_sub, ↓o_mul, ↓o_lss, ↓o_leq, ↓o_gtr, ↓o_geq, ↓o_not, ↓o_pick, ↓o_eqInt, ↓o_neInt, ↓o_eqBool, ↓o_neBool, ↓o_eqPtr, ↓o_nePtr, ↓o_eqPtr', ↓o_eqSl, ↓o_neSl, ↓o_eqStr, ↓o_neStr, ↓o_len, ↓o_lenS, ↓o_min, ↓o_max, ↓o_extract, ↓o_convInt, ↓cd_true, ↓cd_false, ↓gate_tt, ↓gate_ff, ↓gate_tf, ↓gate_ft, ↓gate_undef, ↓o_bind, ↓stay_v, ↓pop_cons, ↓fin_nil, Option.isNone_none, Option.isNone_some, Bool.not_true, Bool.not_false, Nat.zero_add, decide_true, decide_false, if_true, if_false, Bool.false_eq_true, ↓reduceIte]
      exact k _
    · simp only [decide_eq_false h2, ↓o_nil, ↓o_field, ↓o_add, ↓o_sub, ↓o_mul, ↓o_lss, ↓o_leq, ↓o_gtr, ↓o_geq, ↓o_not, ↓o_pick, ↓o_eqInt, ↓o_neInt, ↓o_eqBool, ↓o_neBool, ↓o_eqPtr, ↓o_nePtr, ↓o_eqPtr', ↓o_eqSl, ↓o_neSl, ↓o_eqStr, ↓o_neStr, ↓o_len, ↓o_lenS, ↓o_min, ↓o_max, ↓o_extract, ↓o_convInt, ↓cd_true, ↓cd_false, ↓gate_tt, ↓gate_ff, ↓gate_tf, ↓gate_ft, ↓gate_undef, ↓o_bind, ↓stay_v, ↓pop_cons, ↓fin_nil, Option.isNone_none, Option.isNone_some, Bool.not_true, Bool.not_false, Nat.zero_add, decide_true, decide_false, if_true, if_false, Bool.false_eq_true, ↓reduceIte]
      exact k _
theorem tok_cmp {ab bb : Nat} {x y : Tok} {e e' : Int} {xo yo p q : Operand} (h : sat E w H) [Has H ab (.cells (kcells x).toArray 49 (0, 0))] [Has H bb (.cells (kcells y).toArray 49 (0, 0))] (k : ∀ r, K (.bool r) w) :
    ldv prog (Instr.loadAt 49 (.pointer (some ⟨ab, 0, none⟩))) w fun t_106 w =>
    ldv prog (Instr.loadAt 49 (.pointer (some ⟨bb, 0, none⟩))) w fun t_107 w =>
    pvv prog (oEq .eql 49 xo yo t_106 t_107) w fun t_108 w =>
    gate (some (t_108, true)) (fun K => K (.int .i64 e) w) w fun t_109 w =>
    gate (some (t_108, true)) (fun K => K (.int .i64 e') w) w fun t_110 w =>
    gate (some (t_108, true)) (fun K => pvv prog (oEq .eql 36 p q t_109 t_110) w K) w fun t_111 w =>
    pv prog (oPick t_108 t_111 (.bool false)) w fun t_112 w => K t_112 w := by
  refine ld_agg (b := ab) (xs := kcells x) h rfl ?_
  refine ld_agg (b := bb) (xs := kcells y) h rfl ?_
  rw [eqK]
  exact last_cmp k
theorem two_cmp {fb gb ab bb : Nat} {f g : Fam} {x y : Tok} {e e' : Int} {fo go xo yo p q : Operand} (h : sat E w H) [Has H fb (.cells (fcells f).toArray 35 (0, 0))] [Has H gb (.cells (fcells g).toArray 35 (0, 0))] [Has H ab (.cells (kcells x).toArray 49 (0, 0))] [Has H bb (.cells (kcells y).toArray 49 (0, 0))] (k : ∀ r, K (.bool r) w) :
    ldv prog (Instr.loadAt 35 (.pointer (some ⟨fb, 0, none⟩))) w fun t_36 w =>
    ldv prog (Instr.loadAt 35 (.pointer (some ⟨gb, 0, none⟩))) w fun t_37 w =>
    pvv prog (oEq .eql 35 fo go t_36 t_37) w fun t_38 w =>
    gate (some (t_38, true)) (fun K => ldv prog (Instr.loadAt 49 (.pointer (some ⟨ab, 0, none⟩))) w K) w fun t_39 w =>
    gate (some (t_38, true)) (fun K => ldv prog (Instr.loadAt 49 (.pointer (some ⟨bb, 0, none⟩))) w K) w fun t_40 w =>
    gate (some (t_38, true)) (fun K => pvv prog (oEq .eql 49 xo yo t_39 t_40) w K) w fun t_41 w =>
    pv prog (oPick t_38 t_41 (.bool false)) w fun t_42 w =>
    gate (some (t_42, true)) (fun K => K (.int .i64 e) w) w fun t_43 w =>
    gate (some (t_42, true)) (fun K => K (.int .i64 e') w) w fun t_44 w =>
    gate (some (t_42, true)) (fun K => pvv prog (oEq .eql 36 p q t_43 t_44) w K) w fun t_45 w =>
    pv prog (oPick t_42 t_45 (.bool false)) w fun t_46 w => K t_46 w := by
  refine ld_agg (b := fb) (xs := fcells f) h rfl ?_
  refine ld_agg (b := gb) (xs := fcells g) h rfl ?_
  rw [eqF]
  by_cases hf : f = g
  · rw [decide_eq_true hf]
    try simp only [↓gate_tt]
    refine ld_agg (b := ab) (xs := kcells x) h rfl ?_
    try simp only [↓gate_tt]
    refine ld_agg (b := bb) (xs := kcells y) h rfl ?_
    try simp only [↓gate_tt]
    rw [eqK, o_pick, if_pos rfl]
    exact last_cmp k
  · rw [decide_eq_false hf]
    simp only [↓o_nil, ↓o_field, ↓o_add, ↓o_sub, ↓o_mul, ↓o_lss, ↓o_leq, ↓o_gtr, ↓o_geq, ↓o_not, ↓o_pick, ↓o_eqInt, ↓o_neInt, ↓o_eqBool, ↓o_neBool, ↓o_eqPtr, ↓o_nePtr, ↓o_eqPtr', ↓o_eqSl, ↓o_neSl, ↓o_eqStr, ↓o_neStr, ↓o_len, ↓o_lenS, ↓o_min, ↓o_max, ↓o_extract, ↓o_convInt, ↓cd_true, ↓cd_false, ↓gate_tt, ↓gate_ff, ↓gate_tf, ↓gate_ft, ↓gate_undef, ↓o_bind, ↓stay_v, ↓pop_cons, ↓fin_nil, Option.isNone_none, Option.isNone_some, Bool.not_true, Bool.not_false, Nat.zero_add, decide_true, decide_false, if_true, if_false, Bool.false_eq_true, ↓reduceIte]
    exact k _
theorem do_spec {p b c q m : Nat} {s : St} {rs : Rs} {vf vt : Value} {x : Dd} (ok : OkS s m) (fw : Few rs m) (hm : m ≤ 700000) (hd : OkD R x) (h : sat E w (both p b c q s rs vf vt R))
    (k : ∀ r rs' vf' vt' w', Few rs' (m + 2) → sat E w' (both p b c q (doT s x) rs' vf' vt' R) → K (.bool r) w') : Calls prog 9 #[.pointer (some ⟨p, 0, none⟩), .pointer (some ⟨q, 0, none⟩), .agg (dcells x).toArray] w (Ret K) := by
  have hff := ok.ff
  refine c9 ?_
  unfold B9
  refine box_sl h fun xb w h => ?_
  have h : sat E w (pts xb (.cells (dcells x).toArray 32 (0, 0)) * both p b c q s rs vf vt R) := h
  simp only [↓o_nil, ↓o_field, ↓o_add, ↓o_sub, ↓o_mul, ↓o_lss, ↓o_leq, ↓o_gtr, ↓o_geq, ↓o_not, ↓o_pick, ↓o_eqInt, ↓o_neInt, ↓o_eqBool, ↓o_neBool, ↓o_eqPtr, ↓o_nePtr, ↓o_eqPtr', ↓o_eqSl, ↓o_neSl, ↓o_eqStr, ↓o_neStr, ↓o_len, ↓o_lenS, ↓o_min, ↓o_max, ↓o_extract, ↓o_convInt, ↓cd_true, ↓cd_false, ↓gate_tt, ↓gate_ff, ↓gate_tf, ↓gate_ft, ↓gate_undef, ↓o_bind, ↓stay_v, ↓pop_cons, ↓fin_nil, Option.isNone_none, Option.isNone_some, Bool.not_true, Bool.not_false, Nat.zero_add, decide_true, decide_false, if_true, if_false, Bool.false_eq_true, ↓reduceIte]
  refine ld_in (b := xb) (v := .int .i64 x.kind) h rfl ?_
  rw [o_eqInt]
  by_cases k0 : x.kind = 0
  · have e : doT s x = (grantT s x.id x.cl x.sc x.now).1 := by unfold doT; rw [if_pos k0]
    rw [e] at k
    simp only [decide_eq_true k0, ↓o_nil, ↓o_field, ↓o_add, ↓o_sub, ↓o_mul, ↓o_lss, ↓o_leq, ↓o_gtr, ↓o_geq, ↓o_not, ↓o_pick, ↓o_eqInt, ↓o_neInt, ↓o_eqBool, ↓o_neBool, ↓o_eqPtr, ↓o_nePtr, ↓o_eqPtr', ↓o_eqSl, ↓o_neSl, ↓o_eqStr, ↓o_neStr, ↓o_len, ↓o_lenS, ↓o_min, ↓o_max, ↓o_extract, ↓o_convInt, ↓cd_true, ↓cd_false, ↓gate_tt, ↓gate_ff, ↓gate_tf, ↓gate_ft, ↓gate_undef, ↓o_bind, ↓stay_v, ↓pop_cons, ↓fin_nil, Option.isNone_none, Option.isNone_some, Bool.not_true, Bool.not_false, Nat.zero_add, decide_true, decide_false, if_true, if_false, Bool.false_eq_true, ↓reduceIte]
    refine ld_in (b := xb) (v := .int .i64 x.id) h rfl ?_
    try simp only [↓o_nil, ↓o_field, ↓o_add, ↓o_sub, ↓o_mul, ↓o_lss, ↓o_leq, ↓o_gtr, ↓o_geq, ↓o_not, ↓o_pick, ↓o_eqInt, ↓o_neInt, ↓o_eqBool, ↓o_neBool, ↓o_eqPtr, ↓o_nePtr, ↓o_eqPtr', ↓o_eqSl, ↓o_neSl, ↓o_eqStr, ↓o_neStr, ↓o_len, ↓o_lenS, ↓o_min, ↓o_max, ↓o_extract, ↓o_convInt, ↓cd_true, ↓cd_false, ↓gate_tt, ↓gate_ff, ↓gate_tf, ↓gate_ft, ↓gate_undef, ↓o_bind, ↓stay_v, ↓pop_cons, ↓fin_nil, Option.isNone_none, Option.isNone_some, Bool.not_true, Bool.not_false, Nat.zero_add, decide_true, decide_false, if_true, if_false, Bool.false_eq_true, ↓reduceIte]
    refine ld_in (b := xb) (v := tv x.cl) h rfl ?_
    try simp only [↓o_nil, ↓o_field, ↓o_add, ↓o_sub, ↓o_mul, ↓o_lss, ↓o_leq, ↓o_gtr, ↓o_geq, ↓o_not, ↓o_pick, ↓o_eqInt, ↓o_neInt, ↓o_eqBool, ↓o_neBool, ↓o_eqPtr, ↓o_nePtr, ↓o_eqPtr', ↓o_eqSl, ↓o_neSl, ↓o_eqStr, ↓o_neStr, ↓o_len, ↓o_lenS, ↓o_min, ↓o_max, ↓o_extract, ↓o_convInt, ↓cd_true, ↓cd_false, ↓gate_tt, ↓gate_ff, ↓gate_tf, ↓gate_ft, ↓gate_undef, ↓o_bind, ↓stay_v, ↓pop_cons, ↓fin_nil, Option.isNone_none, Option.isNone_some, Bool.not_true, Bool.not_false, Nat.zero_add, decide_true, decide_false, if_true, if_false, Bool.false_eq_true, ↓reduceIte]
    refine ld_in (b := xb) (v := bv x.sc) h rfl ?_
    try simp only [↓o_nil, ↓o_field, ↓o_add, ↓o_sub, ↓o_mul, ↓o_lss, ↓o_leq, ↓o_gtr, ↓o_geq, ↓o_not, ↓o_pick, ↓o_eqInt, ↓o_neInt, ↓o_eqBool, ↓o_neBool, ↓o_eqPtr, ↓o_nePtr, ↓o_eqPtr', ↓o_eqSl, ↓o_neSl, ↓o_eqStr, ↓o_neStr, ↓o_len, ↓o_lenS, ↓o_min, ↓o_max, ↓o_extract, ↓o_convInt, ↓cd_true, ↓cd_false, ↓gate_tt, ↓gate_ff, ↓gate_tf, ↓gate_ft, ↓gate_undef, ↓o_bind, ↓stay_v, ↓pop_cons, ↓fin_nil, Option.isNone_none, Option.isNone_some, Bool.not_true, Bool.not_false, Nat.zero_add, decide_true, decide_false, if_true, if_false, Bool.false_eq_true, ↓reduceIte]
    refine ld_in (b := xb) (v := .int .i64 x.now) h rfl ?_
    refine Grant_spec ok (by omega) hd.cl (sI_in h) fun w h => ?_
    rw [o_extract, o_extract, o_extract]
    refine two_in (sI_out h) fun fb tb w h => ?_
    try simp only [↓o_nil, ↓o_field, ↓o_add, ↓o_sub, ↓o_mul, ↓o_lss, ↓o_leq, ↓o_gtr, ↓o_geq, ↓o_not, ↓o_pick, ↓o_eqInt, ↓o_neInt, ↓o_eqBool, ↓o_neBool, ↓o_eqPtr, ↓o_nePtr, ↓o_eqPtr', ↓o_eqSl, ↓o_neSl, ↓o_eqStr, ↓o_neStr, ↓o_len, ↓o_lenS, ↓o_min, ↓o_max, ↓o_extract, ↓o_convInt, ↓cd_true, ↓cd_false, ↓gate_tt, ↓gate_ff, ↓gate_tf, ↓gate_ft, ↓gate_undef, ↓o_bind, ↓stay_v, ↓pop_cons, ↓fin_nil, Option.isNone_none, Option.isNone_some, Bool.not_true, Bool.not_false, Nat.zero_add, decide_true, decide_false, if_true, if_false, Bool.false_eq_true, ↓reduceIte]
    refine ld_in (b := xb) (v := .int .i64 x.id) h rfl ?_
    try simp only [↓o_nil, ↓o_field, ↓o_add, ↓o_sub, ↓o_mul, ↓o_lss, ↓o_leq, ↓o_gtr, ↓o_geq, ↓o_not, ↓o_pick, ↓o_eqInt, ↓o_neInt, ↓o_eqBool, ↓o_neBool, ↓o_eqPtr, ↓o_nePtr, ↓o_eqPtr', ↓o_eqSl, ↓o_neSl, ↓o_eqStr, ↓o_neStr, ↓o_len, ↓o_lenS, ↓o_min, ↓o_max, ↓o_extract, ↓o_convInt, ↓cd_true, ↓cd_false, ↓gate_tt, ↓gate_ff, ↓gate_tf, ↓gate_ft, ↓gate_undef, ↓o_bind, ↓stay_v, ↓pop_cons, ↓fin_nil, Option.isNone_none, Option.isNone_some, Bool.not_true, Bool.not_false, Nat.zero_add, decide_true, decide_false, if_true, if_false, Bool.false_eq_true, ↓reduceIte]
    refine ld_in (b := xb) (v := tv x.cl) h rfl ?_
    try simp only [↓o_nil, ↓o_field, ↓o_add, ↓o_sub, ↓o_mul, ↓o_lss, ↓o_leq, ↓o_gtr, ↓o_geq, ↓o_not, ↓o_pick, ↓o_eqInt, ↓o_neInt, ↓o_eqBool, ↓o_neBool, ↓o_eqPtr, ↓o_nePtr, ↓o_eqPtr', ↓o_eqSl, ↓o_neSl, ↓o_eqStr, ↓o_neStr, ↓o_len, ↓o_lenS, ↓o_min, ↓o_max, ↓o_extract, ↓o_convInt, ↓cd_true, ↓cd_false, ↓gate_tt, ↓gate_ff, ↓gate_tf, ↓gate_ft, ↓gate_undef, ↓o_bind, ↓stay_v, ↓pop_cons, ↓fin_nil, Option.isNone_none, Option.isNone_some, Bool.not_true, Bool.not_false, Nat.zero_add, decide_true, decide_false, if_true, if_false, Bool.false_eq_true, ↓reduceIte]
    refine ld_in (b := xb) (v := bv x.sc) h rfl ?_
    try simp only [↓o_nil, ↓o_field, ↓o_add, ↓o_sub, ↓o_mul, ↓o_lss, ↓o_leq, ↓o_gtr, ↓o_geq, ↓o_not, ↓o_pick, ↓o_eqInt, ↓o_neInt, ↓o_eqBool, ↓o_neBool, ↓o_eqPtr, ↓o_nePtr, ↓o_eqPtr', ↓o_eqSl, ↓o_neSl, ↓o_eqStr, ↓o_neStr, ↓o_len, ↓o_lenS, ↓o_min, ↓o_max, ↓o_extract, ↓o_convInt, ↓cd_true, ↓cd_false, ↓gate_tt, ↓gate_ff, ↓gate_tf, ↓gate_ft, ↓gate_undef, ↓o_bind, ↓stay_v, ↓pop_cons, ↓fin_nil, Option.isNone_none, Option.isNone_some, Bool.not_true, Bool.not_false, Nat.zero_add, decide_true, decide_false, if_true, if_false, Bool.false_eq_true, ↓reduceIte]
    refine ld_in (b := xb) (v := .int .i64 x.now) h rfl ?_
    rw [← star_assoc, ← star_assoc] at h
    refine RGrant_spec fw (by omega) hd.cl (both_R h) fun g u e rs' vf' vt' w fw' h => ?_
    rw [o_extract, o_extract, o_extract]
    refine two_in (both_I h) fun gb ub w h => ?_
    refine two_cmp h fun r => k r rs' vf' vt' w fw' ?_
    exact h.drop.drop.drop
  simp only [decide_eq_false k0, ↓o_nil, ↓o_field, ↓o_add, ↓o_sub, ↓o_mul, ↓o_lss, ↓o_leq, ↓o_gtr, ↓o_geq, ↓o_not, ↓o_pick, ↓o_eqInt, ↓o_neInt, ↓o_eqBool, ↓o_neBool, ↓o_eqPtr, ↓o_nePtr, ↓o_eqPtr', ↓o_eqSl, ↓o_neSl, ↓o_eqStr, ↓o_neStr, ↓o_len, ↓o_lenS, ↓o_min, ↓o_max, ↓o_extract, ↓o_convInt, ↓cd_true, ↓cd_false, ↓gate_tt, ↓gate_ff, ↓gate_tf, ↓gate_ft, ↓gate_undef, ↓o_bind, ↓stay_v, ↓pop_cons, ↓fin_nil, Option.isNone_none, Option.isNone_some, Bool.not_true, Bool.not_false, Nat.zero_add, decide_true, decide_false, if_true, if_false, Bool.false_eq_true, ↓reduceIte]
  by_cases k1 : x.kind = 1
  · have e : doT s x = (refT s x.id x.num x.now).1 := by unfold doT; rw [if_neg k0, if_pos k1]
    rw [e] at k
    simp only [decide_eq_true k1, ↓o_nil, ↓o_field, ↓o_add, ↓o_sub, ↓o_mul, ↓o_lss, ↓o_leq, ↓o_gtr, ↓o_geq, ↓o_not, ↓o_pick, ↓o_eqInt, ↓o_neInt, ↓o_eqBool, ↓o_neBool, ↓o_eqPtr, ↓o_nePtr, ↓o_eqPtr', ↓o_eqSl, ↓o_neSl, ↓o_eqStr, ↓o_neStr, ↓o_len, ↓o_lenS, ↓o_min, ↓o_max, ↓o_extract, ↓o_convInt, ↓cd_true, ↓cd_false, ↓gate_tt, ↓gate_ff, ↓gate_tf, ↓gate_ft, ↓gate_undef, ↓o_bind, ↓stay_v, ↓pop_cons, ↓fin_nil, Option.isNone_none, Option.isNone_some, Bool.not_true, Bool.not_false, Nat.zero_add, decide_true, decide_false, if_true, if_false, Bool.false_eq_true, ↓reduceIte]
    refine ld_in (b := xb) (v := .int .i64 x.id) h rfl ?_
    try simp only [↓o_nil, ↓o_field, ↓o_add, ↓o_sub, ↓o_mul, ↓o_lss, ↓o_leq, ↓o_gtr, ↓o_geq, ↓o_not, ↓o_pick, ↓o_eqInt, ↓o_neInt, ↓o_eqBool, ↓o_neBool, ↓o_eqPtr, ↓o_nePtr, ↓o_eqPtr', ↓o_eqSl, ↓o_neSl, ↓o_eqStr, ↓o_neStr, ↓o_len, ↓o_lenS, ↓o_min, ↓o_max, ↓o_extract, ↓o_convInt, ↓cd_true, ↓cd_false, ↓gate_tt, ↓gate_ff, ↓gate_tf, ↓gate_ft, ↓gate_undef, ↓o_bind, ↓stay_v, ↓pop_cons, ↓fin_nil, Option.isNone_none, Option.isNone_some, Bool.not_true, Bool.not_false, Nat.zero_add, decide_true, decide_false, if_true, if_false, Bool.false_eq_true, ↓reduceIte]
    refine ld_in (b := xb) (v := .int .i64 x.num) h rfl ?_
    try simp only [↓o_nil, ↓o_field, ↓o_add, ↓o_sub, ↓o_mul, ↓o_lss, ↓o_leq, ↓o_gtr, ↓o_geq, ↓o_not, ↓o_pick, ↓o_eqInt, ↓o_neInt, ↓o_eqBool, ↓o_neBool, ↓o_eqPtr, ↓o_nePtr, ↓o_eqPtr', ↓o_eqSl, ↓o_neSl, ↓o_eqStr, ↓o_neStr, ↓o_len, ↓o_lenS, ↓o_min, ↓o_max, ↓o_extract, ↓o_convInt, ↓cd_true, ↓cd_false, ↓gate_tt, ↓gate_ff, ↓gate_tf, ↓gate_ft, ↓gate_undef, ↓o_bind, ↓stay_v, ↓pop_cons, ↓fin_nil, Option.isNone_none, Option.isNone_some, Bool.not_true, Bool.not_false, Nat.zero_add, decide_true, decide_false, if_true, if_false, Bool.false_eq_true, ↓reduceIte]
    refine ld_in (b := xb) (v := .int .i64 x.now) h rfl ?_
    refine Refresh_spec ok (by omega) (sI_in h) fun w h => ?_
    rw [o_extract, o_extract, o_extract]
    refine two_in (sI_out h) fun fb tb w h => ?_
    try simp only [↓o_nil, ↓o_field, ↓o_add, ↓o_sub, ↓o_mul, ↓o_lss, ↓o_leq, ↓o_gtr, ↓o_geq, ↓o_not, ↓o_pick, ↓o_eqInt, ↓o_neInt, ↓o_eqBool, ↓o_neBool, ↓o_eqPtr, ↓o_nePtr, ↓o_eqPtr', ↓o_eqSl, ↓o_neSl, ↓o_eqStr, ↓o_neStr, ↓o_len, ↓o_lenS, ↓o_min, ↓o_max, ↓o_extract, ↓o_convInt, ↓cd_true, ↓cd_false, ↓gate_tt, ↓gate_ff, ↓gate_tf, ↓gate_ft, ↓gate_undef, ↓o_bind, ↓stay_v, ↓pop_cons, ↓fin_nil, Option.isNone_none, Option.isNone_some, Bool.not_true, Bool.not_false, Nat.zero_add, decide_true, decide_false, if_true, if_false, Bool.false_eq_true, ↓reduceIte]
    refine ld_in (b := xb) (v := .int .i64 x.id) h rfl ?_
    try simp only [↓o_nil, ↓o_field, ↓o_add, ↓o_sub, ↓o_mul, ↓o_lss, ↓o_leq, ↓o_gtr, ↓o_geq, ↓o_not, ↓o_pick, ↓o_eqInt, ↓o_neInt, ↓o_eqBool, ↓o_neBool, ↓o_eqPtr, ↓o_nePtr, ↓o_eqPtr', ↓o_eqSl, ↓o_neSl, ↓o_eqStr, ↓o_neStr, ↓o_len, ↓o_lenS, ↓o_min, ↓o_max, ↓o_extract, ↓o_convInt, ↓cd_true, ↓cd_false, ↓gate_tt, ↓gate_ff, ↓gate_tf, ↓gate_ft, ↓gate_undef, ↓o_bind, ↓stay_v, ↓pop_cons, ↓fin_nil, Option.isNone_none, Option.isNone_some, Bool.not_true, Bool.not_false, Nat.zero_add, decide_true, decide_false, if_true, if_false, Bool.false_eq_true, ↓reduceIte]
    refine ld_in (b := xb) (v := .int .i64 x.num) h rfl ?_
    try simp only [↓o_nil, ↓o_field, ↓o_add, ↓o_sub, ↓o_mul, ↓o_lss, ↓o_leq, ↓o_gtr, ↓o_geq, ↓o_not, ↓o_pick, ↓o_eqInt, ↓o_neInt, ↓o_eqBool, ↓o_neBool, ↓o_eqPtr, ↓o_nePtr, ↓o_eqPtr', ↓o_eqSl, ↓o_neSl, ↓o_eqStr, ↓o_neStr, ↓o_len, ↓o_lenS, ↓o_min, ↓o_max, ↓o_extract, ↓o_convInt, ↓cd_true, ↓cd_false, ↓gate_tt, ↓gate_ff, ↓gate_tf, ↓gate_ft, ↓gate_undef, ↓o_bind, ↓stay_v, ↓pop_cons, ↓fin_nil, Option.isNone_none, Option.isNone_some, Bool.not_true, Bool.not_false, Nat.zero_add, decide_true, decide_false, if_true, if_false, Bool.false_eq_true, ↓reduceIte]
    refine ld_in (b := xb) (v := .int .i64 x.now) h rfl ?_
    rw [← star_assoc, ← star_assoc] at h
    refine RRefresh_spec fw (by omega) (both_R h) fun g u e rs' vf' vt' w fw' h => ?_
    rw [o_extract, o_extract, o_extract]
    refine two_in (both_I h) fun gb ub w h => ?_
    refine two_cmp h fun r => k r rs' vf' vt' w fw' ?_
    exact h.drop.drop.drop
  simp only [decide_eq_false k1, ↓o_nil, ↓o_field, ↓o_add, ↓o_sub, ↓o_mul, ↓o_lss, ↓o_leq, ↓o_gtr, ↓o_geq, ↓o_not, ↓o_pick, ↓o_eqInt, ↓o_neInt, ↓o_eqBool, ↓o_neBool, ↓o_eqPtr, ↓o_nePtr, ↓o_eqPtr', ↓o_eqSl, ↓o_neSl, ↓o_eqStr, ↓o_neStr, ↓o_len, ↓o_lenS, ↓o_min, ↓o_max, ↓o_extract, ↓o_convInt, ↓cd_true, ↓cd_false, ↓gate_tt, ↓gate_ff, ↓gate_tf, ↓gate_ft, ↓gate_undef, ↓o_bind, ↓stay_v, ↓pop_cons, ↓fin_nil, Option.isNone_none, Option.isNone_some, Bool.not_true, Bool.not_false, Nat.zero_add, decide_true, decide_false, if_true, if_false, Bool.false_eq_true, ↓reduceIte]
  by_cases k2 : x.kind = 2
  · have e : doT s x = s := by unfold doT; rw [if_neg k0, if_neg k1, if_pos k2]
    rw [e] at k
    simp only [decide_eq_true k2, ↓o_nil, ↓o_field, ↓o_add, ↓o_sub, ↓o_mul, ↓o_lss, ↓o_leq, ↓o_gtr, ↓o_geq, ↓o_not, ↓o_pick, ↓o_eqInt, ↓o_neInt, ↓o_eqBool, ↓o_neBool, ↓o_eqPtr, ↓o_nePtr, ↓o_eqPtr', ↓o_eqSl, ↓o_neSl, ↓o_eqStr, ↓o_neStr, ↓o_len, ↓o_lenS, ↓o_min, ↓o_max, ↓o_extract, ↓o_convInt, ↓cd_true, ↓cd_false, ↓gate_tt, ↓gate_ff, ↓gate_tf, ↓gate_ft, ↓gate_undef, ↓o_bind, ↓stay_v, ↓pop_cons, ↓fin_nil, Option.isNone_none, Option.isNone_some, Bool.not_true, Bool.not_false, Nat.zero_add, decide_true, decide_false, if_true, if_false, Bool.false_eq_true, ↓reduceIte]
    refine ld_in (b := xb) (v := .int .i64 x.id) h rfl ?_
    try simp only [↓o_nil, ↓o_field, ↓o_add, ↓o_sub, ↓o_mul, ↓o_lss, ↓o_leq, ↓o_gtr, ↓o_geq, ↓o_not, ↓o_pick, ↓o_eqInt, ↓o_neInt, ↓o_eqBool, ↓o_neBool, ↓o_eqPtr, ↓o_nePtr, ↓o_eqPtr', ↓o_eqSl, ↓o_neSl, ↓o_eqStr, ↓o_neStr, ↓o_len, ↓o_lenS, ↓o_min, ↓o_max, ↓o_extract, ↓o_convInt, ↓cd_true, ↓cd_false, ↓gate_tt, ↓gate_ff, ↓gate_tf, ↓gate_ft, ↓gate_undef, ↓o_bind, ↓stay_v, ↓pop_cons, ↓fin_nil, Option.isNone_none, Option.isNone_some, Bool.not_true, Bool.not_false, Nat.zero_add, decide_true, decide_false, if_true, if_false, Bool.false_eq_true, ↓reduceIte]
    refine ld_in (b := xb) (v := .int .i64 x.now) h rfl ?_
    refine Access_spec (id := x.id) (now := x.now) (sI_in h) fun w h => ?_
    rw [o_extract, o_extract]
    refine tok_in (sI_out h) fun tb w h => ?_
    try simp only [↓o_nil, ↓o_field, ↓o_add, ↓o_sub, ↓o_mul, ↓o_lss, ↓o_leq, ↓o_gtr, ↓o_geq, ↓o_not, ↓o_pick, ↓o_eqInt, ↓o_neInt, ↓o_eqBool, ↓o_neBool, ↓o_eqPtr, ↓o_nePtr, ↓o_eqPtr', ↓o_eqSl, ↓o_neSl, ↓o_eqStr, ↓o_neStr, ↓o_len, ↓o_lenS, ↓o_min, ↓o_max, ↓o_extract, ↓o_convInt, ↓cd_true, ↓cd_false, ↓gate_tt, ↓gate_ff, ↓gate_tf, ↓gate_ft, ↓gate_undef, ↓o_bind, ↓stay_v, ↓pop_cons, ↓fin_nil, Option.isNone_none, Option.isNone_some, Bool.not_true, Bool.not_false, Nat.zero_add, decide_true, decide_false, if_true, if_false, Bool.false_eq_true, ↓reduceIte]
    refine ld_in (b := xb) (v := .int .i64 x.id) h rfl ?_
    try simp only [↓o_nil, ↓o_field, ↓o_add, ↓o_sub, ↓o_mul, ↓o_lss, ↓o_leq, ↓o_gtr, ↓o_geq, ↓o_not, ↓o_pick, ↓o_eqInt, ↓o_neInt, ↓o_eqBool, ↓o_neBool, ↓o_eqPtr, ↓o_nePtr, ↓o_eqPtr', ↓o_eqSl, ↓o_neSl, ↓o_eqStr, ↓o_neStr, ↓o_len, ↓o_lenS, ↓o_min, ↓o_max, ↓o_extract, ↓o_convInt, ↓cd_true, ↓cd_false, ↓gate_tt, ↓gate_ff, ↓gate_tf, ↓gate_ft, ↓gate_undef, ↓o_bind, ↓stay_v, ↓pop_cons, ↓fin_nil, Option.isNone_none, Option.isNone_some, Bool.not_true, Bool.not_false, Nat.zero_add, decide_true, decide_false, if_true, if_false, Bool.false_eq_true, ↓reduceIte]
    refine ld_in (b := xb) (v := .int .i64 x.now) h rfl ?_
    rw [← star_assoc] at h
    refine RAccess_spec fw (by omega) (both_R h) fun u e w h => ?_
    rw [o_extract, o_extract]
    refine tok_in (both_I h) fun ub w h => ?_
    refine tok_cmp h fun r => k r rs vf vt w fw.up.up ?_
    exact h.drop.drop
  simp only [decide_eq_false k2, ↓o_nil, ↓o_field, ↓o_add, ↓o_sub, ↓o_mul, ↓o_lss, ↓o_leq, ↓o_gtr, ↓o_geq, ↓o_not, ↓o_pick, ↓o_eqInt, ↓o_neInt, ↓o_eqBool, ↓o_neBool, ↓o_eqPtr, ↓o_nePtr, ↓o_eqPtr', ↓o_eqSl, ↓o_neSl, ↓o_eqStr, ↓o_neStr, ↓o_len, ↓o_lenS, ↓o_min, ↓o_max, ↓o_extract, ↓o_convInt, ↓cd_true, ↓cd_false, ↓gate_tt, ↓gate_ff, ↓gate_tf, ↓gate_ft, ↓gate_undef, ↓o_bind, ↓stay_v, ↓pop_cons, ↓fin_nil, Option.isNone_none, Option.isNone_some, Bool.not_true, Bool.not_false, Nat.zero_add, decide_true, decide_false, if_true, if_false, Bool.false_eq_true, ↓reduceIte]
  by_cases k3 : x.kind = 3
  · have e : doT s x = (exT s x.id x.sc x.now).1 := by unfold doT; rw [if_neg k0, if_neg k1, if_neg k2, if_pos k3]
    rw [e] at k
    simp only [decide_eq_true k3, ↓o_nil, ↓o_field, ↓o_add, ↓o_sub, ↓o_mul, ↓o_lss, ↓o_leq, ↓o_gtr, ↓o_geq, ↓o_not, ↓o_pick, ↓o_eqInt, ↓o_neInt, ↓o_eqBool, ↓o_neBool, ↓o_eqPtr, ↓o_nePtr, ↓o_eqPtr', ↓o_eqSl, ↓o_neSl, ↓o_eqStr, ↓o_neStr, ↓o_len, ↓o_lenS, ↓o_min, ↓o_max, ↓o_extract, ↓o_convInt, ↓cd_true, ↓cd_false, ↓gate_tt, ↓gate_ff, ↓gate_tf, ↓gate_ft, ↓gate_undef, ↓o_bind, ↓stay_v, ↓pop_cons, ↓fin_nil, Option.isNone_none, Option.isNone_some, Bool.not_true, Bool.not_false, Nat.zero_add, decide_true, decide_false, if_true, if_false, Bool.false_eq_true, ↓reduceIte]
    refine ld_in (b := xb) (v := .int .i64 x.id) h rfl ?_
    try simp only [↓o_nil, ↓o_field, ↓o_add, ↓o_sub, ↓o_mul, ↓o_lss, ↓o_leq, ↓o_gtr, ↓o_geq, ↓o_not, ↓o_pick, ↓o_eqInt, ↓o_neInt, ↓o_eqBool, ↓o_neBool, ↓o_eqPtr, ↓o_nePtr, ↓o_eqPtr', ↓o_eqSl, ↓o_neSl, ↓o_eqStr, ↓o_neStr, ↓o_len, ↓o_lenS, ↓o_min, ↓o_max, ↓o_extract, ↓o_convInt, ↓cd_true, ↓cd_false, ↓gate_tt, ↓gate_ff, ↓gate_tf, ↓gate_ft, ↓gate_undef, ↓o_bind, ↓stay_v, ↓pop_cons, ↓fin_nil, Option.isNone_none, Option.isNone_some, Bool.not_true, Bool.not_false, Nat.zero_add, decide_true, decide_false, if_true, if_false, Bool.false_eq_true, ↓reduceIte]
    refine ld_in (b := xb) (v := bv x.sc) h rfl ?_
    try simp only [↓o_nil, ↓o_field, ↓o_add, ↓o_sub, ↓o_mul, ↓o_lss, ↓o_leq, ↓o_gtr, ↓o_geq, ↓o_not, ↓o_pick, ↓o_eqInt, ↓o_neInt, ↓o_eqBool, ↓o_neBool, ↓o_eqPtr, ↓o_nePtr, ↓o_eqPtr', ↓o_eqSl, ↓o_neSl, ↓o_eqStr, ↓o_neStr, ↓o_len, ↓o_lenS, ↓o_min, ↓o_max, ↓o_extract, ↓o_convInt, ↓cd_true, ↓cd_false, ↓gate_tt, ↓gate_ff, ↓gate_tf, ↓gate_ft, ↓gate_undef, ↓o_bind, ↓stay_v, ↓pop_cons, ↓fin_nil, Option.isNone_none, Option.isNone_some, Bool.not_true, Bool.not_false, Nat.zero_add, decide_true, decide_false, if_true, if_false, Bool.false_eq_true, ↓reduceIte]
    refine ld_in (b := xb) (v := .int .i64 x.now) h rfl ?_
    refine Exchange_spec ok (by omega) (sI_in h) fun w h => ?_
    rw [o_extract, o_extract]
    refine tok_in (sI_out h) fun tb w h => ?_
    try simp only [↓o_nil, ↓o_field, ↓o_add, ↓o_sub, ↓o_mul, ↓o_lss, ↓o_leq, ↓o_gtr, ↓o_geq, ↓o_not, ↓o_pick, ↓o_eqInt, ↓o_neInt, ↓o_eqBool, ↓o_neBool, ↓o_eqPtr, ↓o_nePtr, ↓o_eqPtr', ↓o_eqSl, ↓o_neSl, ↓o_eqStr, ↓o_neStr, ↓o_len, ↓o_lenS, ↓o_min, ↓o_max, ↓o_extract, ↓o_convInt, ↓cd_true, ↓cd_false, ↓gate_tt, ↓gate_ff, ↓gate_tf, ↓gate_ft, ↓gate_undef, ↓o_bind, ↓stay_v, ↓pop_cons, ↓fin_nil, Option.isNone_none, Option.isNone_some, Bool.not_true, Bool.not_false, Nat.zero_add, decide_true, decide_false, if_true, if_false, Bool.false_eq_true, ↓reduceIte]
    refine ld_in (b := xb) (v := .int .i64 x.id) h rfl ?_
    try simp only [↓o_nil, ↓o_field, ↓o_add, ↓o_sub, ↓o_mul, ↓o_lss, ↓o_leq, ↓o_gtr, ↓o_geq, ↓o_not, ↓o_pick, ↓o_eqInt, ↓o_neInt, ↓o_eqBool, ↓o_neBool, ↓o_eqPtr, ↓o_nePtr, ↓o_eqPtr', ↓o_eqSl, ↓o_neSl, ↓o_eqStr, ↓o_neStr, ↓o_len, ↓o_lenS, ↓o_min, ↓o_max, ↓o_extract, ↓o_convInt, ↓cd_true, ↓cd_false, ↓gate_tt, ↓gate_ff, ↓gate_tf, ↓gate_ft, ↓gate_undef, ↓o_bind, ↓stay_v, ↓pop_cons, ↓fin_nil, Option.isNone_none, Option.isNone_some, Bool.not_true, Bool.not_false, Nat.zero_add, decide_true, decide_false, if_true, if_false, Bool.false_eq_true, ↓reduceIte]
    refine ld_in (b := xb) (v := bv x.sc) h rfl ?_
    try simp only [↓o_nil, ↓o_field, ↓o_add, ↓o_sub, ↓o_mul, ↓o_lss, ↓o_leq, ↓o_gtr, ↓o_geq, ↓o_not, ↓o_pick, ↓o_eqInt, ↓o_neInt, ↓o_eqBool, ↓o_neBool, ↓o_eqPtr, ↓o_nePtr, ↓o_eqPtr', ↓o_eqSl, ↓o_neSl, ↓o_eqStr, ↓o_neStr, ↓o_len, ↓o_lenS, ↓o_min, ↓o_max, ↓o_extract, ↓o_convInt, ↓cd_true, ↓cd_false, ↓gate_tt, ↓gate_ff, ↓gate_tf, ↓gate_ft, ↓gate_undef, ↓o_bind, ↓stay_v, ↓pop_cons, ↓fin_nil, Option.isNone_none, Option.isNone_some, Bool.not_true, Bool.not_false, Nat.zero_add, decide_true, decide_false, if_true, if_false, Bool.false_eq_true, ↓reduceIte]
    refine ld_in (b := xb) (v := .int .i64 x.now) h rfl ?_
    rw [← star_assoc] at h
    refine RExchange_spec fw (by omega) (both_R h) fun u e rs' vf' vt' w fw' h => ?_
    rw [o_extract, o_extract]
    refine tok_in (both_I h) fun ub w h => ?_
    refine tok_cmp h fun r => k r rs' vf' vt' w fw'.up ?_
    exact h.drop.drop
  simp only [decide_eq_false k3, ↓o_nil, ↓o_field, ↓o_add, ↓o_sub, ↓o_mul, ↓o_lss, ↓o_leq, ↓o_gtr, ↓o_geq, ↓o_not, ↓o_pick, ↓o_eqInt, ↓o_neInt, ↓o_eqBool, ↓o_neBool, ↓o_eqPtr, ↓o_nePtr, ↓o_eqPtr', ↓o_eqSl, ↓o_neSl, ↓o_eqStr, ↓o_neStr, ↓o_len, ↓o_lenS, ↓o_min, ↓o_max, ↓o_extract, ↓o_convInt, ↓cd_true, ↓cd_false, ↓gate_tt, ↓gate_ff, ↓gate_tf, ↓gate_ft, ↓gate_undef, ↓o_bind, ↓stay_v, ↓pop_cons, ↓fin_nil, Option.isNone_none, Option.isNone_some, Bool.not_true, Bool.not_false, Nat.zero_add, decide_true, decide_false, if_true, if_false, Bool.false_eq_true, ↓reduceIte]
  by_cases k4 : x.kind = 4
  · have e : doT s x = (endT s x.id).1 := by unfold doT; rw [if_neg k0, if_neg k1, if_neg k2, if_neg k3, if_pos k4]
    rw [e] at k
    simp only [decide_eq_true k4, ↓o_nil, ↓o_field, ↓o_add, ↓o_sub, ↓o_mul, ↓o_lss, ↓o_leq, ↓o_gtr, ↓o_geq, ↓o_not, ↓o_pick, ↓o_eqInt, ↓o_neInt, ↓o_eqBool, ↓o_neBool, ↓o_eqPtr, ↓o_nePtr, ↓o_eqPtr', ↓o_eqSl, ↓o_neSl, ↓o_eqStr, ↓o_neStr, ↓o_len, ↓o_lenS, ↓o_min, ↓o_max, ↓o_extract, ↓o_convInt, ↓cd_true, ↓cd_false, ↓gate_tt, ↓gate_ff, ↓gate_tf, ↓gate_ft, ↓gate_undef, ↓o_bind, ↓stay_v, ↓pop_cons, ↓fin_nil, Option.isNone_none, Option.isNone_some, Bool.not_true, Bool.not_false, Nat.zero_add, decide_true, decide_false, if_true, if_false, Bool.false_eq_true, ↓reduceIte]
    refine dr_sl h fun w h _ => ?_
    try simp only [↓o_nil, ↓o_field, ↓o_add, ↓o_sub, ↓o_mul, ↓o_lss, ↓o_leq, ↓o_gtr, ↓o_geq, ↓o_not, ↓o_pick, ↓o_eqInt, ↓o_neInt, ↓o_eqBool, ↓o_neBool, ↓o_eqPtr, ↓o_nePtr, ↓o_eqPtr', ↓o_eqSl, ↓o_neSl, ↓o_eqStr, ↓o_neStr, ↓o_len, ↓o_lenS, ↓o_min, ↓o_max, ↓o_extract, ↓o_convInt, ↓cd_true, ↓cd_false, ↓gate_tt, ↓gate_ff, ↓gate_tf, ↓gate_ft, ↓gate_undef, ↓o_bind, ↓stay_v, ↓pop_cons, ↓fin_nil, Option.isNone_none, Option.isNone_some, Bool.not_true, Bool.not_false, Nat.zero_add, decide_true, decide_false, if_true, if_false, Bool.false_eq_true, ↓reduceIte]
    refine ld_in (b := xb) (v := .int .i64 x.id) h rfl ?_
    try simp only [↓o_nil, ↓o_field, ↓o_add, ↓o_sub, ↓o_mul, ↓o_lss, ↓o_leq, ↓o_gtr, ↓o_geq, ↓o_not, ↓o_pick, ↓o_eqInt, ↓o_neInt, ↓o_eqBool, ↓o_neBool, ↓o_eqPtr, ↓o_nePtr, ↓o_eqPtr', ↓o_eqSl, ↓o_neSl, ↓o_eqStr, ↓o_neStr, ↓o_len, ↓o_lenS, ↓o_min, ↓o_max, ↓o_extract, ↓o_convInt, ↓cd_true, ↓cd_false, ↓gate_tt, ↓gate_ff, ↓gate_tf, ↓gate_ft, ↓gate_undef, ↓o_bind, ↓stay_v, ↓pop_cons, ↓fin_nil, Option.isNone_none, Option.isNone_some, Bool.not_true, Bool.not_false, Nat.zero_add, decide_true, decide_false, if_true, if_false, Bool.false_eq_true, ↓reduceIte]
    refine ld_in (b := xb) (v := .int .i64 x.id) h rfl ?_
    refine End_spec ok (sI_in h) fun w h => ?_
    have h := sI_out h
    refine st_in (b := xb) (v := .int .i64 x.id) h rfl ?_
    refine REnd_spec fw (by omega) (both_R h) fun e rs' vf' vt' w fw' h => ?_
    have h := both_I h
    refine st_in (b := xb) (v := .int .i64 x.id) h rfl ?_
    rw [o_eqInt]
    exact k _ rs' vf' vt' w fw'.up.up h.drop
  simp only [decide_eq_false k4, ↓o_nil, ↓o_field, ↓o_add, ↓o_sub, ↓o_mul, ↓o_lss, ↓o_leq, ↓o_gtr, ↓o_geq, ↓o_not, ↓o_pick, ↓o_eqInt, ↓o_neInt, ↓o_eqBool, ↓o_neBool, ↓o_eqPtr, ↓o_nePtr, ↓o_eqPtr', ↓o_eqSl, ↓o_neSl, ↓o_eqStr, ↓o_neStr, ↓o_len, ↓o_lenS, ↓o_min, ↓o_max, ↓o_extract, ↓o_convInt, ↓cd_true, ↓cd_false, ↓gate_tt, ↓gate_ff, ↓gate_tf, ↓gate_ft, ↓gate_undef, ↓o_bind, ↓stay_v, ↓pop_cons, ↓fin_nil, Option.isNone_none, Option.isNone_some, Bool.not_true, Bool.not_false, Nat.zero_add, decide_true, decide_false, if_true, if_false, Bool.false_eq_true, ↓reduceIte]
  have hrv : Rds (rI q rs vf vt (pts xb (.cells (dcells x).toArray 32 (0, 0)) * R)) x.v x.ss.length (x.ss.map iv) := hd.rd.right.right.right.right
  by_cases k5 : x.kind = 5
  · have e : doT s x = dropAll s (s.f.filter (esP x.ss)) := by unfold doT; rw [if_neg k0, if_neg k1, if_neg k2, if_neg k3, if_neg k4, if_pos k5]
    rw [e] at k
    simp only [decide_eq_true k5, ↓o_nil, ↓o_field, ↓o_add, ↓o_sub, ↓o_mul, ↓o_lss, ↓o_leq, ↓o_gtr, ↓o_geq, ↓o_not, ↓o_pick, ↓o_eqInt, ↓o_neInt, ↓o_eqBool, ↓o_neBool, ↓o_eqPtr, ↓o_nePtr, ↓o_eqPtr', ↓o_eqSl, ↓o_neSl, ↓o_eqStr, ↓o_neStr, ↓o_len, ↓o_lenS, ↓o_min, ↓o_max, ↓o_extract, ↓o_convInt, ↓cd_true, ↓cd_false, ↓gate_tt, ↓gate_ff, ↓gate_tf, ↓gate_ft, ↓gate_undef, ↓o_bind, ↓stay_v, ↓pop_cons, ↓fin_nil, Option.isNone_none, Option.isNone_some, Bool.not_true, Bool.not_false, Nat.zero_add, decide_true, decide_false, if_true, if_false, Bool.false_eq_true, ↓reduceIte]
    refine dr_sl h fun w h _ => ?_
    try simp only [↓o_nil, ↓o_field, ↓o_add, ↓o_sub, ↓o_mul, ↓o_lss, ↓o_leq, ↓o_gtr, ↓o_geq, ↓o_not, ↓o_pick, ↓o_eqInt, ↓o_neInt, ↓o_eqBool, ↓o_neBool, ↓o_eqPtr, ↓o_nePtr, ↓o_eqPtr', ↓o_eqSl, ↓o_neSl, ↓o_eqStr, ↓o_neStr, ↓o_len, ↓o_lenS, ↓o_min, ↓o_max, ↓o_extract, ↓o_convInt, ↓cd_true, ↓cd_false, ↓gate_tt, ↓gate_ff, ↓gate_tf, ↓gate_ft, ↓gate_undef, ↓o_bind, ↓stay_v, ↓pop_cons, ↓fin_nil, Option.isNone_none, Option.isNone_some, Bool.not_true, Bool.not_false, Nat.zero_add, decide_true, decide_false, if_true, if_false, Bool.false_eq_true, ↓reduceIte]
    refine ld_in (b := xb) (v := x.v) h rfl ?_
    try simp only [↓o_nil, ↓o_field, ↓o_add, ↓o_sub, ↓o_mul, ↓o_lss, ↓o_leq, ↓o_gtr, ↓o_geq, ↓o_not, ↓o_pick, ↓o_eqInt, ↓o_neInt, ↓o_eqBool, ↓o_neBool, ↓o_eqPtr, ↓o_nePtr, ↓o_eqPtr', ↓o_eqSl, ↓o_neSl, ↓o_eqStr, ↓o_neStr, ↓o_len, ↓o_lenS, ↓o_min, ↓o_max, ↓o_extract, ↓o_convInt, ↓cd_true, ↓cd_false, ↓gate_tt, ↓gate_ff, ↓gate_tf, ↓gate_ft, ↓gate_undef, ↓o_bind, ↓stay_v, ↓pop_cons, ↓fin_nil, Option.isNone_none, Option.isNone_some, Bool.not_true, Bool.not_false, Nat.zero_add, decide_true, decide_false, if_true, if_false, Bool.false_eq_true, ↓reduceIte]
    refine ld_in (b := xb) (v := x.v) h rfl ?_
    have h : sat E w (sI p s b c (rI q rs vf vt (pts xb (.cells (dcells x).toArray 32 (0, 0)) * R))) := h.perm (by unfold both sI rI; ac_rfl)
    refine EndSessions_spec (l := x.ss) ok (by omega) h hrv hd.len fun u w h => ?_
    refine st_in (b := xb) (v := x.v) h rfl ?_
    have h := h.perm (show _ = rI q rs vf vt (osl 3 1 u (s.f.filter (esP x.ss)).length (((s.f.filter (esP x.ss)).map Fam.id).map iv) * (pts xb (.cells (dcells x).toArray 32 (0, 0)) * sI p (dropAll s (s.f.filter (esP x.ss))) b c R)) by unfold sI rI; ac_rfl)
    refine REndSessions_spec (l := x.ss) fw (by omega) h hd.rd.right.right.right.right.right hd.len fun u2 a rs' vf' vt' w ha fw' h => ?_
    refine st_in (b := xb) (v := x.v) h rfl ?_
    have h := h.perm (show _ = osl 3 1 u (s.f.filter (esP x.ss)).length (((s.f.filter (esP x.ss)).map Fam.id).map iv) * (osl 3 1 u2 a.length (a.map iv) * (pts xb (.cells (dcells x).toArray 32 (0, 0)) * both p b c q (dropAll s (s.f.filter (esP x.ss))) rs' vf' vt' R)) by unfold both sI rI; ac_rfl)
    have hl : ((s.f.filter (esP x.ss)).map Fam.id).length ≤ 1000000 := by
      rw [List.length_map]
      exact Nat.le_trans (List.length_filter_le _ _) (by omega)
    rw [show (s.f.filter (esP x.ss)).length = ((s.f.filter (esP x.ss)).map Fam.id).length by rw [List.length_map]] at h
    refine SameInts_specG h Rds.osl.left Rds.osl.left.right hl fun r w hr h => ?_
    refine st_in (b := xb) (v := x.v) h rfl ?_
    refine st_in (b := xb) (v := x.v) h rfl ?_
    exact k r rs' vf' vt' w fw'.up.up h.drop.drop.drop
  simp only [decide_eq_false k5, ↓o_nil, ↓o_field, ↓o_add, ↓o_sub, ↓o_mul, ↓o_lss, ↓o_leq, ↓o_gtr, ↓o_geq, ↓o_not, ↓o_pick, ↓o_eqInt, ↓o_neInt, ↓o_eqBool, ↓o_neBool, ↓o_eqPtr, ↓o_nePtr, ↓o_eqPtr', ↓o_eqSl, ↓o_neSl, ↓o_eqStr, ↓o_neStr, ↓o_len, ↓o_lenS, ↓o_min, ↓o_max, ↓o_extract, ↓o_convInt, ↓cd_true, ↓cd_false, ↓gate_tt, ↓gate_ff, ↓gate_tf, ↓gate_ft, ↓gate_undef, ↓o_bind, ↓stay_v, ↓pop_cons, ↓fin_nil, Option.isNone_none, Option.isNone_some, Bool.not_true, Bool.not_false, Nat.zero_add, decide_true, decide_false, if_true, if_false, Bool.false_eq_true, ↓reduceIte]
  by_cases k6 : x.kind = 6
  · have e : doT s x = dropAll s (s.f.filter (ecP x.cl x.ss)) := by unfold doT; rw [if_neg k0, if_neg k1, if_neg k2, if_neg k3, if_neg k4, if_neg k5, if_pos k6]
    rw [e] at k
    simp only [decide_eq_true k6, ↓o_nil, ↓o_field, ↓o_add, ↓o_sub, ↓o_mul, ↓o_lss, ↓o_leq, ↓o_gtr, ↓o_geq, ↓o_not, ↓o_pick, ↓o_eqInt, ↓o_neInt, ↓o_eqBool, ↓o_neBool, ↓o_eqPtr, ↓o_nePtr, ↓o_eqPtr', ↓o_eqSl, ↓o_neSl, ↓o_eqStr, ↓o_neStr, ↓o_len, ↓o_lenS, ↓o_min, ↓o_max, ↓o_extract, ↓o_convInt, ↓cd_true, ↓cd_false, ↓gate_tt, ↓gate_ff, ↓gate_tf, ↓gate_ft, ↓gate_undef, ↓o_bind, ↓stay_v, ↓pop_cons, ↓fin_nil, Option.isNone_none, Option.isNone_some, Bool.not_true, Bool.not_false, Nat.zero_add, decide_true, decide_false, if_true, if_false, Bool.false_eq_true, ↓reduceIte]
    refine dr_sl h fun w h _ => ?_
    try simp only [↓o_nil, ↓o_field, ↓o_add, ↓o_sub, ↓o_mul, ↓o_lss, ↓o_leq, ↓o_gtr, ↓o_geq, ↓o_not, ↓o_pick, ↓o_eqInt, ↓o_neInt, ↓o_eqBool, ↓o_neBool, ↓o_eqPtr, ↓o_nePtr, ↓o_eqPtr', ↓o_eqSl, ↓o_neSl, ↓o_eqStr, ↓o_neStr, ↓o_len, ↓o_lenS, ↓o_min, ↓o_max, ↓o_extract, ↓o_convInt, ↓cd_true, ↓cd_false, ↓gate_tt, ↓gate_ff, ↓gate_tf, ↓gate_ft, ↓gate_undef, ↓o_bind, ↓stay_v, ↓pop_cons, ↓fin_nil, Option.isNone_none, Option.isNone_some, Bool.not_true, Bool.not_false, Nat.zero_add, decide_true, decide_false, if_true, if_false, Bool.false_eq_true, ↓reduceIte]
    refine ld_in (b := xb) (v := tv x.cl) h rfl ?_
    try simp only [↓o_nil, ↓o_field, ↓o_add, ↓o_sub, ↓o_mul, ↓o_lss, ↓o_leq, ↓o_gtr, ↓o_geq, ↓o_not, ↓o_pick, ↓o_eqInt, ↓o_neInt, ↓o_eqBool, ↓o_neBool, ↓o_eqPtr, ↓o_nePtr, ↓o_eqPtr', ↓o_eqSl, ↓o_neSl, ↓o_eqStr, ↓o_neStr, ↓o_len, ↓o_lenS, ↓o_min, ↓o_max, ↓o_extract, ↓o_convInt, ↓cd_true, ↓cd_false, ↓gate_tt, ↓gate_ff, ↓gate_tf, ↓gate_ft, ↓gate_undef, ↓o_bind, ↓stay_v, ↓pop_cons, ↓fin_nil, Option.isNone_none, Option.isNone_some, Bool.not_true, Bool.not_false, Nat.zero_add, decide_true, decide_false, if_true, if_false, Bool.false_eq_true, ↓reduceIte]
    refine ld_in (b := xb) (v := x.v) h rfl ?_
    try simp only [↓o_nil, ↓o_field, ↓o_add, ↓o_sub, ↓o_mul, ↓o_lss, ↓o_leq, ↓o_gtr, ↓o_geq, ↓o_not, ↓o_pick, ↓o_eqInt, ↓o_neInt, ↓o_eqBool, ↓o_neBool, ↓o_eqPtr, ↓o_nePtr, ↓o_eqPtr', ↓o_eqSl, ↓o_neSl, ↓o_eqStr, ↓o_neStr, ↓o_len, ↓o_lenS, ↓o_min, ↓o_max, ↓o_extract, ↓o_convInt, ↓cd_true, ↓cd_false, ↓gate_tt, ↓gate_ff, ↓gate_tf, ↓gate_ft, ↓gate_undef, ↓o_bind, ↓stay_v, ↓pop_cons, ↓fin_nil, Option.isNone_none, Option.isNone_some, Bool.not_true, Bool.not_false, Nat.zero_add, decide_true, decide_false, if_true, if_false, Bool.false_eq_true, ↓reduceIte]
    refine ld_in (b := xb) (v := tv x.cl) h rfl ?_
    try simp only [↓o_nil, ↓o_field, ↓o_add, ↓o_sub, ↓o_mul, ↓o_lss, ↓o_leq, ↓o_gtr, ↓o_geq, ↓o_not, ↓o_pick, ↓o_eqInt, ↓o_neInt, ↓o_eqBool, ↓o_neBool, ↓o_eqPtr, ↓o_nePtr, ↓o_eqPtr', ↓o_eqSl, ↓o_neSl, ↓o_eqStr, ↓o_neStr, ↓o_len, ↓o_lenS, ↓o_min, ↓o_max, ↓o_extract, ↓o_convInt, ↓cd_true, ↓cd_false, ↓gate_tt, ↓gate_ff, ↓gate_tf, ↓gate_ft, ↓gate_undef, ↓o_bind, ↓stay_v, ↓pop_cons, ↓fin_nil, Option.isNone_none, Option.isNone_some, Bool.not_true, Bool.not_false, Nat.zero_add, decide_true, decide_false, if_true, if_false, Bool.false_eq_true, ↓reduceIte]
    refine ld_in (b := xb) (v := x.v) h rfl ?_
    have h : sat E w (sI p s b c (rI q rs vf vt (pts xb (.cells (dcells x).toArray 32 (0, 0)) * R))) := h.perm (by unfold both sI rI; ac_rfl)
    refine EndClient_spec (l := x.ss) (cl := x.cl) ok (by omega) h hrv hd.len fun u w h => ?_
    refine st_in (b := xb) (v := x.v) h rfl ?_
    refine st_in (b := xb) (v := tv x.cl) h rfl ?_
    have h := h.perm (show _ = rI q rs vf vt (osl 3 1 u (s.f.filter (ecP x.cl x.ss)).length (((s.f.filter (ecP x.cl x.ss)).map Fam.id).map iv) * (pts xb (.cells (dcells x).toArray 32 (0, 0)) * sI p (dropAll s (s.f.filter (ecP x.cl x.ss))) b c R)) by unfold sI rI; ac_rfl)
    refine REndClient_spec (l := x.ss) (cl := x.cl) fw (by omega) h hd.rd.right.right.right.right.right hd.len fun u2 a rs' vf' vt' w ha fw' h => ?_
    refine st_in (b := xb) (v := x.v) h rfl ?_
    refine st_in (b := xb) (v := tv x.cl) h rfl ?_
    have h := h.perm (show _ = osl 3 1 u (s.f.filter (ecP x.cl x.ss)).length (((s.f.filter (ecP x.cl x.ss)).map Fam.id).map iv) * (osl 3 1 u2 a.length (a.map iv) * (pts xb (.cells (dcells x).toArray 32 (0, 0)) * both p b c q (dropAll s (s.f.filter (ecP x.cl x.ss))) rs' vf' vt' R)) by unfold both sI rI; ac_rfl)
    have hl : ((s.f.filter (ecP x.cl x.ss)).map Fam.id).length ≤ 1000000 := by
      rw [List.length_map]
      exact Nat.le_trans (List.length_filter_le _ _) (by omega)
    rw [show (s.f.filter (ecP x.cl x.ss)).length = ((s.f.filter (ecP x.cl x.ss)).map Fam.id).length by rw [List.length_map]] at h
    refine SameInts_specG h Rds.osl.left Rds.osl.left.right hl fun r w hr h => ?_
    refine st_in (b := xb) (v := x.v) h rfl ?_
    refine st_in (b := xb) (v := tv x.cl) h rfl ?_
    refine st_in (b := xb) (v := x.v) h rfl ?_
    refine st_in (b := xb) (v := tv x.cl) h rfl ?_
    exact k r rs' vf' vt' w fw'.up.up h.drop.drop.drop
  simp only [decide_eq_false k6, ↓o_nil, ↓o_field, ↓o_add, ↓o_sub, ↓o_mul, ↓o_lss, ↓o_leq, ↓o_gtr, ↓o_geq, ↓o_not, ↓o_pick, ↓o_eqInt, ↓o_neInt, ↓o_eqBool, ↓o_neBool, ↓o_eqPtr, ↓o_nePtr, ↓o_eqPtr', ↓o_eqSl, ↓o_neSl, ↓o_eqStr, ↓o_neStr, ↓o_len, ↓o_lenS, ↓o_min, ↓o_max, ↓o_extract, ↓o_convInt, ↓cd_true, ↓cd_false, ↓gate_tt, ↓gate_ff, ↓gate_tf, ↓gate_ft, ↓gate_undef, ↓o_bind, ↓stay_v, ↓pop_cons, ↓fin_nil, Option.isNone_none, Option.isNone_some, Bool.not_true, Bool.not_false, Nat.zero_add, decide_true, decide_false, if_true, if_false, Bool.false_eq_true, ↓reduceIte]
  have e : doT s x = if timeE s x.now = 0 then swT s x.now else s := by unfold doT; rw [if_neg k0, if_neg k1, if_neg k2, if_neg k3, if_neg k4, if_neg k5, if_neg k6]
  refine ld_in (b := xb) (v := .int .i64 x.now) h rfl ?_
  have fin : ∀ (w : World) (s' : St) (n e : Int), doT s x = s' → sat E w (pts xb (.cells (dcells x).toArray 32 (0, 0)) * both p b c q s' rs vf vt R) →
      pvv prog (Instr.fieldAt 32 (.pointer (some ⟨xb, 0, none⟩)) 3) w fun t_192 w =>
      ldv prog (Instr.loadAt 3 t_192) w fun t_193 w =>
      Calls prog 31 #[.pointer (some ⟨q, 0, none⟩), t_193] w (Ret fun t_194 w =>
      pvv prog (Instr.extract t_194 0) w fun t_195 w =>
      pvv prog (Instr.extract t_194 1) w fun t_196 w =>
      pvv prog (oEq .eql 3 (.tmp 226) (.tmp 227) (.int .i64 n) t_195) w fun t_197 w =>
      gate (some (t_197, true)) (fun K => K (.int .i64 e) w) w fun t_198 w =>
      gate (some (t_197, true)) (fun K => K t_196 w) w fun t_199 w =>
      gate (some (t_197, true)) (fun K => pvv prog (oEq .eql 36 (.tmp 230) (.tmp 231) t_198 t_199) w K) w fun t_200 w =>
      pv prog (oPick t_197 t_200 (.bool false)) w fun t_201 w =>
      K t_201 w) := by
    intro w s' n e hs h
    rw [hs] at k
    simp only [↓o_nil, ↓o_field, ↓o_add, ↓o_sub, ↓o_mul, ↓o_lss, ↓o_leq, ↓o_gtr, ↓o_geq, ↓o_not, ↓o_pick, ↓o_eqInt, ↓o_neInt, ↓o_eqBool, ↓o_neBool, ↓o_eqPtr, ↓o_nePtr, ↓o_eqPtr', ↓o_eqSl, ↓o_neSl, ↓o_eqStr, ↓o_neStr, ↓o_len, ↓o_lenS, ↓o_min, ↓o_max, ↓o_extract, ↓o_convInt, ↓cd_true, ↓cd_false, ↓gate_tt, ↓gate_ff, ↓gate_tf, ↓gate_ft, ↓gate_undef, ↓o_bind, ↓stay_v, ↓pop_cons, ↓fin_nil, Option.isNone_none, Option.isNone_some, Bool.not_true, Bool.not_false, Nat.zero_add, decide_true, decide_false, if_true, if_false, Bool.false_eq_true, ↓reduceIte]
    refine ld_in (b := xb) (v := .int .i64 x.now) h rfl ?_
    refine RSweep_spec fw (by omega) (both_R h) fun n2 e2 rs' vf' vt' w fw' h => ?_
    rw [o_extract, o_extract, o_eqInt]
    exact last_cmp fun r => k r rs' vf' vt' w fw'.up.up (both_I h).drop
  refine Sweep_spec ok (by omega) (sI_in h) (fun he w h => ?_) (fun he n w h => ?_)
  · rw [o_extract, o_extract]
    have g := fin w s 0 (timeE s x.now) (by rw [e, if_neg he]) (sI_out h)
    try simp only [↓o_nil, ↓o_field, ↓o_add, ↓o_sub, ↓o_mul, ↓o_lss, ↓o_leq, ↓o_gtr, ↓o_geq, ↓o_not, ↓o_pick, ↓o_eqInt, ↓o_neInt, ↓o_eqBool, ↓o_neBool, ↓o_eqPtr, ↓o_nePtr, ↓o_eqPtr', ↓o_eqSl, ↓o_neSl, ↓o_eqStr, ↓o_neStr, ↓o_len, ↓o_lenS, ↓o_min, ↓o_max, ↓o_extract, ↓o_convInt, ↓cd_true, ↓cd_false, ↓gate_tt, ↓gate_ff, ↓gate_tf, ↓gate_ft, ↓gate_undef, ↓o_bind, ↓stay_v, ↓pop_cons, ↓fin_nil, Option.isNone_none, Option.isNone_some, Bool.not_true, Bool.not_false, Nat.zero_add, decide_true, decide_false, if_true, if_false, Bool.false_eq_true, ↓reduceIte] at g
    exact g
  · rw [o_extract, o_extract]
    have g := fin w _ n 0 (by rw [e, if_pos he]) (sI_out h)
    try simp only [↓o_nil, ↓o_field, ↓o_add, ↓o_sub, ↓o_mul, ↓o_lss, ↓o_leq, ↓o_gtr, ↓o_geq, ↓o_not, ↓o_pick, ↓o_eqInt, ↓o_neInt, ↓o_eqBool, ↓o_neBool, ↓o_eqPtr, ↓o_nePtr, ↓o_eqPtr', ↓o_eqSl, ↓o_neSl, ↓o_eqStr, ↓o_neStr, ↓o_len, ↓o_lenS, ↓o_min, ↓o_max, ↓o_extract, ↓o_convInt, ↓cd_true, ↓cd_false, ↓gate_tt, ↓gate_ff, ↓gate_tf, ↓gate_ft, ↓gate_undef, ↓o_bind, ↓stay_v, ↓pop_cons, ↓fin_nil, Option.isNone_none, Option.isNone_some, Bool.not_true, Bool.not_false, Nat.zero_add, decide_true, decide_false, if_true, if_false, Bool.false_eq_true, ↓reduceIte] at g
    exact g
end Go.Proofs.YtbcimkjgpplcpaaGreatDoor.T

/-
  Tokens are narrower than their families. No program in sight.
-/
set_option linter.all false
set_option maxRecDepth 100000
namespace Go.Proofs.YtbcimkjgpplcpaaGreatDoor.T
open Go Hold
theorem sub_of {a b : UInt8} (h : a &&& ~~~b = 0) : a &&& b = a := by
  have h := congrArg UInt8.toBitVec h
  apply UInt8.toBitVec_inj.1
  simp only [UInt8.toBitVec_and, UInt8.toBitVec_not] at h ⊢
  apply BitVec.eq_of_getLsbD_eq
  intro i hi
  have := congrArg (fun x => BitVec.getLsbD x i) h
  simp only [BitVec.getLsbD_and, BitVec.getLsbD_not] at this ⊢
  simp [hi] at this
  cases ha : a.toBitVec.getLsbD i with
  | false => simp
  | true =>
    rw [Bool.true_and, BitVec.getLsbD_eq_getElem hi]
    rw [BitVec.getLsbD_eq_getElem hi] at ha
    simpa [ha] using this
theorem sub_trans {a b c : UInt8} (h1 : a &&& b = a) (h2 : b &&& c = b) : a &&& c = a := by
  rw [← h1, UInt8.and_assoc, h2]
theorem sub_self (a : UInt8) : a &&& a = a := UInt8.and_self
def Narrow (s : St) : Prop := ∀ x ∈ s.k, ∃ f ∈ s.f, f.id = x.fam ∧ x.sc &&& f.sc = x.sc
theorem nar_new : Narrow newS := fun x hx => by simp [newS] at hx
theorem nar_drop {s : St} {q : List Fam} (n : Narrow s) : Narrow (dropAll s q) := fun x hx => by
  obtain ⟨h1, h2⟩ := (dropAll_k _).1 hx
  obtain ⟨f, hf, e, hs⟩ := n x h1
  exact ⟨f, (dropAll_f _).2 ⟨hf, by rw [e]; exact h2⟩, e, hs⟩
theorem nar_drop1 {s : St} {id : Int} (n : Narrow s) : Narrow (dropS s id) := fun x hx => by
  have h : x ∈ s.k ∧ x.fam ≠ id := by unfold dropS at hx; simpa using hx
  obtain ⟨f, hf, e, hs⟩ := n x h.1
  refine ⟨f, ?_, e, hs⟩
  unfold dropS dropG
  simp only [List.mem_filter]
  exact ⟨hf, by rw [e]; simpa using h.2⟩
theorem nar_fresh {s : St} {fam til : Int} {sc : UInt8} (n : Narrow s) (h : ∃ f ∈ s.f, f.id = fam ∧ sc &&& f.sc = sc) : Narrow (freshS s fam sc til) := fun x hx => by
  rcases List.mem_append.1 hx with hx | hx
  · exact n x hx
  · rw [List.mem_singleton.1 hx]
    exact h
theorem nar_noted {s : St} {now : Int} (n : Narrow s) : Narrow { s with noted := now } := n
theorem nar_do {s : St} {m : Nat} {x : Dd} (ok : OkS s m) (n : Narrow s) : Narrow (doT s x) := by
  unfold doT
  split
  · unfold grantT
    repeat' split
    all_goals try exact n
    refine nar_fresh (fun y hy => ?_) ⟨grantF s x.id x.cl x.sc, List.mem_append_right _ (List.mem_singleton.2 rfl), rfl, sub_self _⟩
    obtain ⟨f, hf, e, hs⟩ := n y hy
    exact ⟨f, List.mem_append_left _ hf, e, hs⟩
  · split
    · unfold refT
      split
      · exact n
      · split
        · exact n
        · split
          · exact n
          · split
            · exact nar_noted (nar_drop1 n)
            · split
              · exact n
              · rename_i h1 h2 h3 h4 h5
                obtain ⟨hm, hid⟩ := findF_ok (s := s) (id := x.id) (by simpa using h2)
                generalize (findF s x.id).1 = g at hm hid
                have hput : ∀ f ∈ s.f, ∃ f' ∈ putG Fam.id s.f { g with nx := g.nx + 1 }, f'.id = f.id ∧ f'.sc = f.sc := by
                  intro f hf
                  refine ⟨_, List.mem_map.2 ⟨f, hf, rfl⟩, ?_⟩
                  split
                  · rename_i e
                    have : f = g := rise_inj ok.fr hf hm e
                    rw [this]
                    exact ⟨rfl, rfl⟩
                  · exact ⟨rfl, rfl⟩
                refine nar_fresh (fun y hy => ?_) ?_
                · obtain ⟨f, hf, e, hs⟩ := n y hy
                  obtain ⟨f', hf', e1, e2⟩ := hput f hf
                  exact ⟨f', hf', by rw [e1]; exact e, by rw [e2]; exact hs⟩
                · obtain ⟨f', hf', e1, e2⟩ := hput g hm
                  exact ⟨f', hf', by rw [e1]; exact hid, by rw [e2]; exact sub_self _⟩
    · split
      · exact n
      · split
        · unfold exT
          repeat' split
          all_goals try exact n
          rename_i h1 h2 h3
          obtain ⟨_, hm, _, _⟩ := accT_ok (show (accT s x.id x.now).2 = 0 by simpa using h1)
          obtain ⟨f, hf, e, hs⟩ := n _ hm
          refine nar_fresh (nar_noted n) ⟨f, hf, e, sub_trans (sub_of ?_) hs⟩
          simpa using h2
        · split
          · unfold endT
            split
            · exact nar_drop1 n
            · exact n
          · split
            · exact nar_drop n
            · split
              · exact nar_drop n
              · split
                · exact fun y hy => n y (List.mem_filter.1 hy).1
                · exact n
theorem acc_err {s : St} {id now : Int} (h : (accT s id now).2 ≠ 0) : (accT s id now).1 = zeroK := by
  unfold accT at h ⊢
  split
  · rfl
  · rename_i h1
    rw [if_neg h1] at h
    split
    · rfl
    · rename_i h2
      rw [if_neg h2] at h
      unfold findK at h ⊢
      split
      · rfl
      · rename_i h3
        rw [if_neg h3] at h
        split
        · rename_i x hx
          rw [hx] at h
          exact absurd rfl h
        · rfl
end Go.Proofs.YtbcimkjgpplcpaaGreatDoor.T

/-
  A store's fork: its maps are copied.
-/
set_option linter.all false
set_option maxRecDepth 100000
namespace Go.Proofs.YtbcimkjgpplcpaaGreatDoor.T
open Go Hold Go.Proofs
variable {E : World0} {w : World} {H R X : HP} {K : Value → World → Prop}
theorem o_eqMap {P : Program} {t k e : TypeId} {xo yo : Operand} {p : Option Nat} {K : Value → World → Prop} [i : Ul P t (.map k e)] : pvv P (oEq .eql t xo yo (.map p) (.map none)) w K = K (.bool p.isNone) w := pvv_eq fun w => by
  have := run_eql_map_nil_sl (P := P) w t k e p i.ul
  simp [oEq, eqGuard, this]
theorem cloneF_spec {b : Nat} {l : List (Int × Value)} (h : sat E w (omap b l * H)) (k : ∀ n w', sat E w' (omap n l * (omap b l * H)) → K (.map (some n)) w') : Calls prog 32 #[.map (some b)] w (Ret K) := by
  refine c32 ?_
  unfold B32
  rw [o_eqMap, Option.isNone_some, cd_false]
  refine pvv_of (v := .iface 60 (.map (some b))) (fun w => by kernel_rfl) ?_
  obtain ⟨ns, c, st, hp⟩ := sat_omap.1 h
  have h1 : (oCall (.func (.func 63) #[] #[]) #[.iface 60 (.map (some b))]).run prog w = (vN (Extern.MapsClone.clone #[.iface 60 (.map (some b))])).run prog w := by kernel_rfl
  refine ef_of (h1.trans (vN_run (run_maps_clone_sl (P := prog) w 60 hp.pts_get))) ?_
  refine efv_of (run_typeAssert_map_sl (P := prog) _ 60 20 _ _ _ ul_60.ul) ?_
  refine k _ _ (sat_omap.2 ⟨ns, c, st, ?_⟩)
  have hp2 := hp.alloc (.map (ents l ns).toArray c)
  have hp3 := hp2.perm (star_left_comm _ _ _)
  have := sat_omap.2 ⟨ns, c, st, hp3⟩
  exact this.perm (star_left_comm _ _ _)
theorem cloneK_spec {b : Nat} {l : List (Int × Value)} (h : sat E w (omap b l * H)) (k : ∀ n w', sat E w' (omap n l * (omap b l * H)) → K (.map (some n)) w') : Calls prog 33 #[.map (some b)] w (Ret K) := by
  refine c33 ?_
  unfold B33
  rw [o_eqMap, Option.isNone_some, cd_false]
  refine pvv_of (v := .iface 63 (.map (some b))) (fun w => by kernel_rfl) ?_
  obtain ⟨ns, c, st, hp⟩ := sat_omap.1 h
  have h1 : (oCall (.func (.func 63) #[] #[]) #[.iface 63 (.map (some b))]).run prog w = (vN (Extern.MapsClone.clone #[.iface 63 (.map (some b))])).run prog w := by kernel_rfl
  refine ef_of (h1.trans (vN_run (run_maps_clone_sl (P := prog) w 63 hp.pts_get))) ?_
  refine efv_of (run_typeAssert_map_sl (P := prog) _ 63 20 _ _ _ ul_63.ul) ?_
  refine k _ _ (sat_omap.2 ⟨ns, c, st, ?_⟩)
  have hp2 := hp.alloc (.map (ents l ns).toArray c)
  have hp3 := hp2.perm (star_left_comm _ _ _)
  have := sat_omap.2 ⟨ns, c, st, hp3⟩
  exact this.perm (star_left_comm _ _ _)
theorem Fork_spec {p b c : Nat} {s : St} (h : sat E w (sI p s b c R)) (k : ∀ p' b' c' w', sat E w' (sI p' s b' c' (sI p s b c R)) → K (.pointer (some ⟨p', 0, none⟩)) w') : Calls prog 10 #[.pointer (some ⟨p, 0, none⟩)] w (Ret K) := by
  have one : ∀ (s : St) (b c : Nat), ∀ v ∈ stcells s b c, v.oneCell' = true := fun s b c v hv => by
    simp [stcells] at hv
    rcases hv with rfl | rfl | rfl | rfl | rfl <;> rfl
  refine c10 ?_
  unfold B10
  simp only [↓o_eqPtr, Option.isNone_some, ↓cd_false]
  rw [o_nil]
  refine ld_agg (b := p) (xs := stcells s b c) h rfl ?_
  refine alloc_sl h fun fb w h => ?_
  have h : sat E w (pts fb (.cells [Value.int .i64 0, .map none, .int .i64 0, .map none, .int .i64 0].toArray 67 (0, 0)) * sI p s b c R) := h
  refine store_all (b := fb) h (xs := [Value.int .i64 0, .map none, .int .i64 0, .map none, .int .i64 0]) (vs := stcells s b c) rfl rfl (one s b c) fun w h => ?_
  refine dr_sl h fun w h _ => ?_
  simp only [↓o_nil, ↓o_field, ↓o_add, ↓o_sub, ↓o_mul, ↓o_lss, ↓o_leq, ↓o_gtr, ↓o_geq, ↓o_not, ↓o_pick, ↓o_eqInt, ↓o_neInt, ↓o_eqBool, ↓o_neBool, ↓o_eqPtr, ↓o_nePtr, ↓o_eqPtr', ↓o_eqSl, ↓o_neSl, ↓o_eqStr, ↓o_neStr, ↓o_len, ↓o_lenS, ↓o_min, ↓o_max, ↓o_extract, ↓o_convInt, ↓cd_true, ↓cd_false, ↓gate_tt, ↓gate_ff, ↓gate_tf, ↓gate_ft, ↓gate_undef, ↓o_bind, ↓stay_v, ↓pop_cons, ↓fin_nil, Option.isNone_none, Option.isNone_some, Bool.not_true, Bool.not_false, Nat.zero_add, decide_true, decide_false, if_true, if_false, Bool.false_eq_true, ↓reduceIte]
  refine ld_in (b := p) (v := .map (some b)) h rfl ?_
  try simp only [↓o_nil, ↓o_field, ↓o_add, ↓o_sub, ↓o_mul, ↓o_lss, ↓o_leq, ↓o_gtr, ↓o_geq, ↓o_not, ↓o_pick, ↓o_eqInt, ↓o_neInt, ↓o_eqBool, ↓o_neBool, ↓o_eqPtr, ↓o_nePtr, ↓o_eqPtr', ↓o_eqSl, ↓o_neSl, ↓o_eqStr, ↓o_neStr, ↓o_len, ↓o_lenS, ↓o_min, ↓o_max, ↓o_extract, ↓o_convInt, ↓cd_true, ↓cd_false, ↓gate_tt, ↓gate_ff, ↓gate_tf, ↓gate_ft, ↓gate_undef, ↓o_bind, ↓stay_v, ↓pop_cons, ↓fin_nil, Option.isNone_none, Option.isNone_some, Bool.not_true, Bool.not_false, Nat.zero_add, decide_true, decide_false, if_true, if_false, Bool.false_eq_true, ↓reduceIte]
  refine ld_in (b := p) (v := .map (some c)) h rfl ?_
  have h := h.perm (show _ = omap b (fmp s.f) * (pts fb (.cells (stcells s b c).toArray 67 (0, 0)) * (pts p (.cells (stcells s b c).toArray 67 (0, 0)) * (omap c (kmp s.k) * R))) by unfold sI; ac_rfl)
  refine cloneF_spec h fun b' w h => ?_
  refine st_in (b := p) (v := .map (some c)) h rfl ?_
  have h := h.perm (show _ = omap c (kmp s.k) * (omap b' (fmp s.f) * (omap b (fmp s.f) * (pts fb (.cells (stcells s b c).toArray 67 (0, 0)) * (pts p (.cells (stcells s b c).toArray 67 (0, 0)) * R)))) by ac_rfl)
  refine cloneK_spec h fun c' w h => ?_
  refine st_in (b := p) (v := .map (some b)) h rfl ?_
  try simp only [↓o_nil, ↓o_field, ↓o_add, ↓o_sub, ↓o_mul, ↓o_lss, ↓o_leq, ↓o_gtr, ↓o_geq, ↓o_not, ↓o_pick, ↓o_eqInt, ↓o_neInt, ↓o_eqBool, ↓o_neBool, ↓o_eqPtr, ↓o_nePtr, ↓o_eqPtr', ↓o_eqSl, ↓o_neSl, ↓o_eqStr, ↓o_neStr, ↓o_len, ↓o_lenS, ↓o_min, ↓o_max, ↓o_extract, ↓o_convInt, ↓cd_true, ↓cd_false, ↓gate_tt, ↓gate_ff, ↓gate_tf, ↓gate_ft, ↓gate_undef, ↓o_bind, ↓stay_v, ↓pop_cons, ↓fin_nil, Option.isNone_none, Option.isNone_some, Bool.not_true, Bool.not_false, Nat.zero_add, decide_true, decide_false, if_true, if_false, Bool.false_eq_true, ↓reduceIte]
  refine store_sl (b := fb) h rfl (by simp [stcells]) fun w h => ?_
  try simp only [↓o_nil, ↓o_field, ↓o_add, ↓o_sub, ↓o_mul, ↓o_lss, ↓o_leq, ↓o_gtr, ↓o_geq, ↓o_not, ↓o_pick, ↓o_eqInt, ↓o_neInt, ↓o_eqBool, ↓o_neBool, ↓o_eqPtr, ↓o_nePtr, ↓o_eqPtr', ↓o_eqSl, ↓o_neSl, ↓o_eqStr, ↓o_neStr, ↓o_len, ↓o_lenS, ↓o_min, ↓o_max, ↓o_extract, ↓o_convInt, ↓cd_true, ↓cd_false, ↓gate_tt, ↓gate_ff, ↓gate_tf, ↓gate_ft, ↓gate_undef, ↓o_bind, ↓stay_v, ↓pop_cons, ↓fin_nil, Option.isNone_none, Option.isNone_some, Bool.not_true, Bool.not_false, Nat.zero_add, decide_true, decide_false, if_true, if_false, Bool.false_eq_true, ↓reduceIte]
  refine store_sl (b := fb) h rfl (by simp [stcells]) fun w h => ?_
  refine k fb b' c' w ?_
  exact h.perm (by unfold sI; simp only [stcells, List.set_cons_zero, List.set_cons_succ]; ac_rfl)
/-! What is ended for one client. No program in sight. -/
theorem find_drop {s : St} {m : Nat} (ok : OkS s m) (q : List Fam) (id : Int) (hq : ∀ f ∈ q, f ∈ s.f) :
    ((findF s id).2 = 0 → (findF (dropAll s q) id).2 = if id ∈ q.map Fam.id then 12 else 0) ∧ ((findF s id).2 ≠ 0 → (findF (dropAll s q) id).2 = (findF s id).2 ∧ id ∉ q.map Fam.id) := by
  have okd := ok_dropAll q ok
  have hn := dropAll_n q (s := s)
  have none_of : (∀ f ∈ s.f, f.id ≠ id) → findG Fam.id s.f id = none := fun h => List.find?_eq_none.2 fun f hf => by simpa using fun e => h f hf e.symm
  have none_ofd : (∀ f ∈ (dropAll s q).f, f.id ≠ id) → findG Fam.id (dropAll s q).f id = none := fun h => List.find?_eq_none.2 fun f hf => by simpa using fun e => h f hf e.symm
  constructor
  · intro h
    obtain ⟨hm, hid⟩ := findF_ok h
    generalize (findF s id).1 = f at hm hid
    have hf := ok.fa f hm
    have h1 := hf.id1
    have h2 := hf.id2
    rw [hid] at h1 h2
    unfold findF
    rw [hn.2.1, if_neg (by omega)]
    by_cases hi : id ∈ q.map Fam.id
    · rw [if_pos hi, none_ofd fun g hg e => ((dropAll_f q).1 hg).2 (e ▸ hi)]
    · rw [if_neg hi]
      have := findG_mem okd.fr ((dropAll_f q).2 ⟨hm, by rw [hid]; exact hi⟩)
      rw [hid] at this
      rw [this]
  · intro h
    have hno : ∀ f ∈ s.f, f.id ≠ id := by
      intro f hf e
      refine h ?_
      have hx := ok.fa f hf
      unfold findF
      rw [← e, if_neg (by have := hx.id1; have := hx.id2; omega), findG_mem ok.fr hf]
    constructor
    · unfold findF
      rw [hn.2.1]
      split
      · rfl
      · rw [none_of hno, none_ofd fun g hg => hno g ((dropAll_f q).1 hg).1]
    · intro hi
      obtain ⟨f, hf, e⟩ := List.mem_map.1 hi
      exact hno f (hq f hf) e
end Go.Proofs.YtbcimkjgpplcpaaGreatDoor.T

/-
  Tokens of a family.
-/
set_option linter.all false
set_option maxRecDepth 100000
namespace Go.Proofs.YtbcimkjgpplcpaaGreatDoor.T
open Go Hold
variable {E : World0} {w : World} {H R X : HP} {K : Value → World → Prop}
theorem ToksF_spec {nb : Nat} {n : Int} {x : Tok} (h : sat E w H) [Has H nb (.cells [Value.int .i64 n].toArray 3 (0, 0))]
    (k : ∀ w', sat E w' H → K (.bool (decide (x.fam = n))) w') : ef prog (oCall (.func (.func 40) #[] #[.pointer (some ⟨nb, 0, none⟩)]) #[kv x]) w K := by
  refine oCall_body Tryz.func40 (by kernel_rfl) (by kernel_rfl) ?_
  show Calls prog 40 #[kv x, .pointer (some ⟨nb, 0, none⟩)] w (Ret K)
  refine c40 ?_
  unfold B40
  refine box_sl h fun b w h => ?_
  have h : sat E w (pts b (.cells (kcells x).toArray 49 (0, 0)) * H) := h
  simp only [↓o_nil, ↓o_field, ↓o_add, ↓o_sub, ↓o_mul, ↓o_lss, ↓o_leq, ↓o_gtr, ↓o_geq, ↓o_not, ↓o_pick, ↓o_eqInt, ↓o_neInt, ↓o_eqBool, ↓o_neBool, ↓o_eqPtr, ↓o_nePtr, ↓o_eqPtr', ↓o_eqSl, ↓o_neSl, ↓o_eqStr, ↓o_neStr, ↓o_len, ↓o_lenS, ↓o_min, ↓o_max, ↓o_extract, ↓o_convInt, ↓cd_true, ↓cd_false, ↓gate_tt, ↓gate_ff, ↓gate_tf, ↓gate_ft, ↓gate_undef, ↓o_bind, ↓stay_v, ↓pop_cons, ↓fin_nil, Option.isNone_none, Option.isNone_some, Bool.not_true, Bool.not_false, Nat.zero_add, decide_true, decide_false, if_true, if_false, Bool.false_eq_true, ↓reduceIte]
  refine ld_in (b := b) (v := .int .i64 x.fam) h rfl ?_
  refine ld_in (b := nb) (v := .int .i64 n) h rfl ?_
  rw [o_eqInt]
  exact k w h.drop
def toksL (s : St) (n : Int) : List Tok := s.k.filter fun x => decide (x.fam = n)
theorem Tokens_spec {p b c m : Nat} {s : St} {n : Int} (ok : OkS s m) (hm : m ≤ 900000) (h : sat E w (sI p s b c R))
    (k : ∀ u w', sat E w' (osl 49 4 u (toksL s n).length (kvs (toksL s n)) * sI p s b c R) → K u w') : Calls prog 14 #[.pointer (some ⟨p, 0, none⟩), .int .i64 n] w (Ret K) := by
  have := ok.kf
  refine c14 ?_
  unfold B14
  refine box_sl h fun nb w h => ?_
  have h : sat E w (boxNum nb n * sI p s b c R) := h
  simp only [↓o_eqPtr, Option.isNone_some, ↓cd_false]
  simp only [↓o_nil, ↓o_field, ↓o_add, ↓o_sub, ↓o_mul, ↓o_lss, ↓o_leq, ↓o_gtr, ↓o_geq, ↓o_not, ↓o_pick, ↓o_eqInt, ↓o_neInt, ↓o_eqBool, ↓o_neBool, ↓o_eqPtr, ↓o_nePtr, ↓o_eqPtr', ↓o_eqSl, ↓o_neSl, ↓o_eqStr, ↓o_neStr, ↓o_len, ↓o_lenS, ↓o_min, ↓o_max, ↓o_extract, ↓o_convInt, ↓cd_true, ↓cd_false, ↓gate_tt, ↓gate_ff, ↓gate_tf, ↓gate_ft, ↓gate_undef, ↓o_bind, ↓stay_v, ↓pop_cons, ↓fin_nil, Option.isNone_none, Option.isNone_some, Bool.not_true, Bool.not_false, Nat.zero_add, decide_true, decide_false, if_true, if_false, Bool.false_eq_true, ↓reduceIte]
  refine ld_part (b := p) h (rowK s c) rfl rfl ?_
  refine pvv_of (v := .func (.func 40) #[] #[.pointer (some ⟨nb, 0, none⟩)]) (fun _ => rfl) ?_
  have h := h.perm (show _ = omap c (kmp s.k) * (boxNum nb n * (pts p (.cells (stcells s b c).toArray 67 (0, 0)) * (omap b (fmp s.f) * R))) by unfold sI; ac_rfl)
  refine allK_spec (pr := fun x => decide (x.fam = n)) ok.kr (by omega) h (fun x X w K' hx h k' => ToksF_spec (nb := nb) h k') fun u w h => ?_
  refine k u w ?_
  have h := h.perm (show _ = boxNum nb n * (osl 49 4 u (toksL s n).length (kvs (toksL s n)) * sI p s b c R) by unfold sI toksL; ac_rfl)
  exact h.drop
theorem dropAll_few : ∀ (l : List Fam) {s : St}, (dropAll s l).f.length ≤ s.f.length ∧ (dropAll s l).k.length ≤ s.k.length
  | [], s => ⟨Nat.le_refl _, Nat.le_refl _⟩
  | x :: l, s => by
    have ih := dropAll_few l (s := dropS s x.id)
    have e : dropAll s (x :: l) = dropAll (dropS s x.id) l := rfl
    rw [e]
    have h1 : (dropS s x.id).f.length ≤ s.f.length := by unfold dropS dropG; exact List.length_filter_le _ _
    have h2 : (dropS s x.id).k.length ≤ s.k.length := by unfold dropS; exact List.length_filter_le _ _
    exact ⟨by omega, by omega⟩
theorem toksL_none {s : St} {qs : List Fam} {id : Int} (h : id ∈ qs.map Fam.id) : toksL (dropAll s qs) id = [] := by
  unfold toksL
  rw [List.filter_eq_nil_iff]
  intro y hy
  have := ((dropAll_k qs).1 hy).2
  simp only [decide_eq_true_eq]
  exact fun e => this (e ▸ h)
theorem famsL_none {s : St} {ss : List Int} {n : Int} (h : n ∈ ss) : famsL (dropAll s (s.f.filter (esP ss))) n = [] := by
  unfold famsL
  rw [List.filter_eq_nil_iff]
  intro y hy
  obtain ⟨h1, h2⟩ := (dropAll_f _).1 hy
  simp only [decide_eq_true_eq]
  intro e
  refine h2 (List.mem_map.2 ⟨y, List.mem_filter.2 ⟨h1, ?_⟩, rfl⟩)
  unfold esP
  rw [e]
  exact decide_eq_true h
end Go.Proofs.YtbcimkjgpplcpaaGreatDoor.T

/-
  TokenEnds: the walk.
-/
set_option linter.all false
set_option maxRecDepth 100000
namespace Go.Proofs.YtbcimkjgpplcpaaGreatDoor.T
open Go Hold Go.Sort Go.Shelf
variable {E : World0} {w : World} {H R X : HP} {K : Value → World → Prop}
theorem findF_in {s : St} {m : Nat} {f : Fam} (ok : OkS s m) (hf : f ∈ s.f) : findF s f.id = (f, 0) := by
  obtain ⟨h1, h2, _, _⟩ := ok.fa f hf
  unfold findF
  rw [if_neg (by omega), findG_mem ok.fr hf]
theorem Ends_spec (h : sat E w H) (hd : Dbt H) {v : Value} (l : List Dd) (hl : Rds H v l.length (l.flatMap dcells)) (ml : l.length ≤ 9223372036854775807) (sl : ∀ x ∈ l, OkD H x)
    {u : Value} (ss : List Int) (hs : Rds H u ss.length (ss.map iv)) (ms : ss.length ≤ 9223372036854775807) (hS : SortOk)
    (k : ∀ w', sat E w' H → K (.bool true) w') : Calls prog 4 #[v, u] w (Ret K) := by
  obtain ⟨va, vc, rfl, hvc, hl, _⟩ := hl.shape h
  obtain ⟨sa, sc, rfl, hsc, hs, _⟩ := hs.shape h
  refine c4 ?_
  unfold B4
  refine New_spec h fun p b c w h => ?_
  refine RNew_spec h fun q vf vt w h => ?_
  refine live_spec h fun w h => ?_
  simp only [↓o_not, Bool.not_true, ↓cd_false]
  have h : sat E w (both p b c q newS newR vf vt H) := by
    unfold both
    unfold sI rI at h ⊢
    exact h.perm (by ac_rfl)
  refine lp_nat (fun r σ w => ∃ (i : Nat) (s : St) (rs : Rs) (vf vt : Value), σ = [.int .i64 (i : Int)] ∧ r = 60 - i ∧ i ≤ 60 ∧ OkS s (2 * i) ∧ Few rs (2 * i) ∧ sat E w (both p b c q s rs vf vt H)) 60
    ⟨0, newS, newR, vf, vt, rfl, rfl, by omega, ok_newS, few_new, h⟩ ?_
  clear h
  rintro r σ w again ⟨i, s, rs, vf, vt, rfl, rfl, hi, ok, fw, h⟩ hag
  rw [pop_cons, fin_nil, o_len, two_lss]
  refine cd_dec (fun hlt => ?_) (fun hge => ?_)
  · have hi1 : i < l.length := by omega
    have hx : l[i]? = some l[i] := List.getElem?_eq_getElem hi1
    have hm : l[i] ∈ l := List.getElem_mem hi1
    generalize l[i] = x at hx hm
    have h0 : sat E w H := by unfold both sI rI at h; exact h.drop.drop.drop.drop.drop.drop
    obtain ⟨b', o', c', e, hc', hrd⟩ := hl.opened h0 (by rw [fm_length (k := 7) (fun _ => rfl)]; omega)
    cases e
    rw [o_index (by omega) (by omega)]
    refine ld_el h (Rds.under hrd) (i * 7) (by simp) (dcells x) rfl (fm_at (k := 7) (fun _ => rfl) hx) ?_
    refine do_spec ok fw (by omega) (sl x hm) h fun r rs' vf' vt' w fw' h => ?_
    rw [o_add, i64_of (by omega) (by omega)]
    exact hag (60 - (i + 1)) _ _ (by omega) ⟨i + 1, doT s x, rs', vf', vt', rfl, rfl, by omega, by have := ok_do (x := x) ok; exact this, fw', h⟩
  clear hag hge
  refine Fork_spec h fun p2 b2 c2 w h => ?_
  have hfl := ok.ff
  have hkl := ok.kf
  have h := h.perm (show _ = sI p s b c (rI q rs vf vt (sI p2 s b2 c2 H)) by unfold sI rI; ac_rfl)
  have hsr : Rds (rI q rs vf vt (sI p2 s b2 c2 H)) (.slice sa ss.length sc) ss.length (ss.map iv) := hs.right.right.right.right.right.right
  refine EndSessions_spec (l := ss) ok (by omega) h hsr ms fun en w h => ?_
  have hq : ∀ f ∈ s.f.filter (esP ss), f ∈ s.f := fun f hf => (List.mem_filter.1 hf).1
  have hqs : ∀ f ∈ s.f.filter (esP ss), f.ses ∈ ss := fun f hf => by
    have := (List.mem_filter.1 hf).2
    unfold esP at this
    exact of_decide_eq_true this
  have hqn : ∀ n ∈ ss, famsL (dropAll s (s.f.filter (esP ss))) n = [] := fun n hn => famsL_none hn
  have hql : (s.f.filter (esP ss)).length ≤ 1000 := Nat.le_trans (List.length_filter_le _ _) (by omega)
  generalize s.f.filter (esP ss) = qs at h hq hqs hqn hql
  have okd := ok_dropAll qs ok
  have hfew := dropAll_few qs (s := s)
  have hfd : ∀ f ∈ qs, (findF (dropAll s qs) f.id).2 = 12 := fun f hf => by
    have := (find_drop ok qs f.id hq).1 (by rw [findF_in ok (hq f hf)])
    rw [this, if_pos (List.mem_map.2 ⟨f, hf, rfl⟩)]
  have htn : ∀ f ∈ qs, toksL (dropAll s qs) f.id = [] := fun f hf => toksL_none (List.mem_map.2 ⟨f, hf, rfl⟩)
  generalize dropAll s qs = s' at h okd hfew hfd htn hqn
  obtain ⟨ea, ec, rfl, hec, _, hpos⟩ := osl_shape h
  have hsR : ∀ {X Y : HP}, Rds (sI p s' b c (sI p2 s b2 c2 (X * (rI q rs vf vt (Y * H))))) (.slice sa ss.length sc) ss.length (ss.map iv) := fun {X Y} => hs.right.right.right.right.right.right.right.right.right.right.right
  have hsR0 : ∀ {X : HP}, Rds (sI p s' b c (sI p2 s b2 c2 (X * (rI q rs vf vt H)))) (.slice sa ss.length sc) ss.length (ss.map iv) := fun {X} => hs.right.right.right.right.right.right.right.right.right.right
  have h := h.perm (show _ = sI p s' b c (sI p2 s b2 c2 (osl 3 1 (.slice ea qs.length ec) qs.length ((qs.map Fam.id).map iv) * (rI q rs vf vt H))) by unfold sI rI; ac_rfl)
  refine lp_nat (fun r σ w => ∃ (i : Nat), σ = [.int .i64 (i : Int)] ∧ r = qs.length - i ∧ i ≤ qs.length ∧ sat E w (sI p s' b c (sI p2 s b2 c2 (osl 3 1 (.slice ea qs.length ec) qs.length ((qs.map Fam.id).map iv) * (rI q rs vf vt H))))) qs.length ⟨0, rfl, by omega, by omega, h⟩ ?_
  clear h
  rintro r σ w again2 ⟨i, rfl, rfl, hi2, h⟩ hag2
  rw [pop_cons, fin_nil, o_len, o_lss]
  refine cd_dec (fun hlt => ?_) (fun hge => ?_)
  · have hi3 : i < qs.length := by omega
    obtain ⟨eb, hub⟩ := hpos (by omega)
    subst hub
    have hx : qs[i]? = some qs[i] := List.getElem?_eq_getElem hi3
    have hm : qs[i] ∈ qs := List.getElem_mem hi3
    generalize qs[i] = f at hx hm
    have hcell : ((qs.map Fam.id).map iv)[i]? = some (.int .i64 f.id) := by rw [List.getElem?_map, List.getElem?_map, hx]; rfl
    have hO : ∀ {Y : HP}, Rds (sI p s' b c (sI p2 s b2 c2 (osl 3 1 (.slice (some ⟨eb, 0, none⟩) qs.length ec) qs.length ((qs.map Fam.id).map iv) * Y))) (.slice (some ⟨eb, 0, none⟩) qs.length ec) qs.length ((qs.map Fam.id).map iv) := fun {Y} => Rds.osl.left.right.right.right.right.right.right
    have ix : ∀ {w : World} {K : Value → World → Prop}, pvv prog (Instr.indexAt 23 (.slice (some ⟨eb, 0, none⟩) qs.length ec) (.int .i64 (i : Int))) w K = K (.pointer (some ⟨eb, 0 + i * 1, none⟩)) w := fun {w K} => by
      rw [o_index (by omega) (by omega), Int.toNat_natCast]
    rw [ix]
    refine ld_rd h hO i (by omega) hcell ?_
    have h := h.perm (show _ = sI p2 s b2 c2 (sI p s' b c (osl 3 1 (.slice (some ⟨eb, 0, none⟩) qs.length ec) qs.length ((qs.map Fam.id).map iv) * (rI q rs vf vt H))) by unfold sI rI; ac_rfl)
    refine Family_spec (id := f.id) h fun w h => ?_
    rw [o_extract, o_extract, findF_in ok (hq f hm)]
    refine fam_in h fun fb w h => ?_
    have h := h.perm (show _ = sI p s' b c (sI p2 s b2 c2 (osl 3 1 (.slice (some ⟨eb, 0, none⟩) qs.length ec) qs.length ((qs.map Fam.id).map iv) * (rI q rs vf vt (pts fb (.cells (fcells f).toArray 35 (0, 0)) * H)))) by unfold sI rI; ac_rfl)
    rw [ix]
    refine ld_rd h hO i (by omega) hcell ?_
    refine Family_spec (id := f.id) h fun w h => ?_
    rw [o_extract, o_extract, hfd f hm]
    refine fam_in h fun gb w h => ?_
    have h := h.drop
    refine lp_nat (fun r σ w => ∃ (j : Nat), σ = [.bool (decide (f.ses ∈ ss.take j)), .int .i64 (j : Int)] ∧ r = ss.length - j ∧ j ≤ ss.length ∧ sat E w (sI p s' b c (sI p2 s b2 c2 (osl 3 1 (.slice (some ⟨eb, 0, none⟩) qs.length ec) qs.length ((qs.map Fam.id).map iv) * (rI q rs vf vt (pts fb (.cells (fcells f).toArray 35 (0, 0)) * H)))))) ss.length ⟨0, by simp, by omega, by omega, h⟩ ?_
    clear h
    rintro r σ w again3 ⟨j, rfl, rfl, hj, h⟩ hag3
    rw [pop_cons, pop_cons, fin_nil, o_len, o_lss]
    refine cd_dec (fun hlt3 => ?_) (fun hge3 => ?_)
    · have hj1 : j < ss.length := by omega
      have hy : ss[j]? = some ss[j] := List.getElem?_eq_getElem hj1
      have htk : ss.take (j + 1) = ss.take j ++ [ss[j]] := List.take_succ_eq_append_getElem hj1
      generalize ss[j] = y at hy htk
      refine dr_sl h fun w h _ => ?_
      have next : ∀ {w} (g : Bool), sat E w (sI p s' b c (sI p2 s b2 c2 (osl 3 1 (.slice (some ⟨eb, 0, none⟩) qs.length ec) qs.length ((qs.map Fam.id).map iv) * (rI q rs vf vt (pts fb (.cells (fcells f).toArray 35 (0, 0)) * H))))) → g = decide (f.ses ∈ ss.take (j + 1)) → again3 [.bool g, .int .i64 (IntKind.i64.wrap ((j : Int) + 1))] w := by
        rintro w _ h rfl
        rw [i64_of (by omega) (by omega)]
        exact hag3 (ss.length - (j + 1)) _ _ (by omega) ⟨j + 1, rfl, rfl, by omega, h⟩
      by_cases hg : f.ses ∈ ss.take j
      · simp only [decide_eq_true hg, ↓o_nil, ↓o_field, ↓o_add, ↓o_sub, ↓o_mul, ↓o_lss, ↓o_leq, ↓o_gtr, ↓o_geq, ↓o_not, ↓o_pick, ↓o_eqInt, ↓o_neInt, ↓o_eqBool, ↓o_neBool, ↓o_eqPtr, ↓o_nePtr, ↓o_eqPtr', ↓o_eqSl, ↓o_neSl, ↓o_eqStr, ↓o_neStr, ↓o_len, ↓o_lenS, ↓o_min, ↓o_max, ↓o_extract, ↓o_convInt, ↓cd_true, ↓cd_false, ↓gate_tt, ↓gate_ff, ↓gate_tf, ↓gate_ft, ↓gate_undef, ↓o_bind, ↓stay_v, ↓pop_cons, ↓fin_nil, Option.isNone_none, Option.isNone_some, Bool.not_true, Bool.not_false, Nat.zero_add, decide_true, decide_false, if_true, if_false, Bool.false_eq_true, ↓reduceIte]
        exact next true h (by rw [htk, eq_comm, decide_eq_true_iff]; exact List.mem_append_left _ hg)
      · simp only [decide_eq_false hg, ↓o_nil, ↓o_field, ↓o_add, ↓o_sub, ↓o_mul, ↓o_lss, ↓o_leq, ↓o_gtr, ↓o_geq, ↓o_not, ↓o_pick, ↓o_eqInt, ↓o_neInt, ↓o_eqBool, ↓o_neBool, ↓o_eqPtr, ↓o_nePtr, ↓o_eqPtr', ↓o_eqSl, ↓o_neSl, ↓o_eqStr, ↓o_neStr, ↓o_len, ↓o_lenS, ↓o_min, ↓o_max, ↓o_extract, ↓o_convInt, ↓cd_true, ↓cd_false, ↓gate_tt, ↓gate_ff, ↓gate_tf, ↓gate_ft, ↓gate_undef, ↓o_bind, ↓stay_v, ↓pop_cons, ↓fin_nil, Option.isNone_none, Option.isNone_some, Bool.not_true, Bool.not_false, Nat.zero_add, decide_true, decide_false, if_true, if_false, Bool.false_eq_true, ↓reduceIte]
        obtain ⟨tb, to_, _, te, _, hsv⟩ := (hsR (X := osl 3 1 (.slice (some ⟨eb, 0, none⟩) qs.length ec) qs.length ((qs.map Fam.id).map iv)) (Y := pts fb (.cells (fcells f).toArray 35 (0, 0)))).opened h (by simp; omega)
        cases te
        rw [o_index (by omega) (by omega), Int.toNat_natCast]
        try simp only [↓o_nil, ↓o_field, ↓o_add, ↓o_sub, ↓o_mul, ↓o_lss, ↓o_leq, ↓o_gtr, ↓o_geq, ↓o_not, ↓o_pick, ↓o_eqInt, ↓o_neInt, ↓o_eqBool, ↓o_neBool, ↓o_eqPtr, ↓o_nePtr, ↓o_eqPtr', ↓o_eqSl, ↓o_neSl, ↓o_eqStr, ↓o_neStr, ↓o_len, ↓o_lenS, ↓o_min, ↓o_max, ↓o_extract, ↓o_convInt, ↓cd_true, ↓cd_false, ↓gate_tt, ↓gate_ff, ↓gate_tf, ↓gate_ft, ↓gate_undef, ↓o_bind, ↓stay_v, ↓pop_cons, ↓fin_nil, Option.isNone_none, Option.isNone_some, Bool.not_true, Bool.not_false, Nat.zero_add, decide_true, decide_false, if_true, if_false, Bool.false_eq_true, ↓reduceIte]
        refine ld_rd h hsv j (by omega) (v := .int .i64 y) (by rw [List.getElem?_map, hy]; rfl) ?_
        refine ld_in (b := fb) (v := .int .i64 f.ses) h rfl ?_
        try simp only [↓o_nil, ↓o_field, ↓o_add, ↓o_sub, ↓o_mul, ↓o_lss, ↓o_leq, ↓o_gtr, ↓o_geq, ↓o_not, ↓o_pick, ↓o_eqInt, ↓o_neInt, ↓o_eqBool, ↓o_neBool, ↓o_eqPtr, ↓o_nePtr, ↓o_eqPtr', ↓o_eqSl, ↓o_neSl, ↓o_eqStr, ↓o_neStr, ↓o_len, ↓o_lenS, ↓o_min, ↓o_max, ↓o_extract, ↓o_convInt, ↓cd_true, ↓cd_false, ↓gate_tt, ↓gate_ff, ↓gate_tf, ↓gate_ft, ↓gate_undef, ↓o_bind, ↓stay_v, ↓pop_cons, ↓fin_nil, Option.isNone_none, Option.isNone_some, Bool.not_true, Bool.not_false, Nat.zero_add, decide_true, decide_false, if_true, if_false, Bool.false_eq_true, ↓reduceIte]
        refine next _ h ?_
        rw [htk, decide_eq_decide, List.mem_append, List.mem_singleton]
        exact ⟨fun h => .inr h.symm, fun h => h.elim (fun h => absurd h hg) (fun h => h.symm)⟩
    · have hj2 : j = ss.length := by omega
      subst hj2
      rw [List.take_length, decide_eq_true (hqs f hm)]
      simp only [show decide ((0 : Int) = 0) = true from rfl, show decide ((12 : Int) = 12) = true from rfl, ↓o_nil, ↓o_field, ↓o_add, ↓o_sub, ↓o_mul, ↓o_lss, ↓o_leq, ↓o_gtr, ↓o_geq, ↓o_not, ↓o_pick, ↓o_eqInt, ↓o_neInt, ↓o_eqBool, ↓o_neBool, ↓o_eqPtr, ↓o_nePtr, ↓o_eqPtr', ↓o_eqSl, ↓o_neSl, ↓o_eqStr, ↓o_neStr, ↓o_len, ↓o_lenS, ↓o_min, ↓o_max, ↓o_extract, ↓o_convInt, ↓cd_true, ↓cd_false, ↓gate_tt, ↓gate_ff, ↓gate_tf, ↓gate_ft, ↓gate_undef, ↓o_bind, ↓stay_v, ↓pop_cons, ↓fin_nil, Option.isNone_none, Option.isNone_some, Bool.not_true, Bool.not_false, Nat.zero_add, decide_true, decide_false, if_true, if_false, Bool.false_eq_true, ↓reduceIte]
      rw [ix]
      try simp only [↓o_nil, ↓o_field, ↓o_add, ↓o_sub, ↓o_mul, ↓o_lss, ↓o_leq, ↓o_gtr, ↓o_geq, ↓o_not, ↓o_pick, ↓o_eqInt, ↓o_neInt, ↓o_eqBool, ↓o_neBool, ↓o_eqPtr, ↓o_nePtr, ↓o_eqPtr', ↓o_eqSl, ↓o_neSl, ↓o_eqStr, ↓o_neStr, ↓o_len, ↓o_lenS, ↓o_min, ↓o_max, ↓o_extract, ↓o_convInt, ↓cd_true, ↓cd_false, ↓gate_tt, ↓gate_ff, ↓gate_tf, ↓gate_ft, ↓gate_undef, ↓o_bind, ↓stay_v, ↓pop_cons, ↓fin_nil, Option.isNone_none, Option.isNone_some, Bool.not_true, Bool.not_false, Nat.zero_add, decide_true, decide_false, if_true, if_false, Bool.false_eq_true, ↓reduceIte]
      refine ld_rd h hO i (by omega) hcell ?_
      refine Tokens_spec (n := f.id) okd (by omega) h fun tv_ w h => ?_
      rw [htn f hm] at h
      obtain ⟨ta, tc, rfl, _, _, _⟩ := osl_shape h
      simp only [show decide ((([] : List Tok).length : Int) = 0) = true from rfl, ↓o_nil, ↓o_field, ↓o_add, ↓o_sub, ↓o_mul, ↓o_lss, ↓o_leq, ↓o_gtr, ↓o_geq, ↓o_not, ↓o_pick, ↓o_eqInt, ↓o_neInt, ↓o_eqBool, ↓o_neBool, ↓o_eqPtr, ↓o_nePtr, ↓o_eqPtr', ↓o_eqSl, ↓o_neSl, ↓o_eqStr, ↓o_neStr, ↓o_len, ↓o_lenS, ↓o_min, ↓o_max, ↓o_extract, ↓o_convInt, ↓cd_true, ↓cd_false, ↓gate_tt, ↓gate_ff, ↓gate_tf, ↓gate_ft, ↓gate_undef, ↓o_bind, ↓stay_v, ↓pop_cons, ↓fin_nil, Option.isNone_none, Option.isNone_some, Bool.not_true, Bool.not_false, Nat.zero_add, decide_true, decide_false, if_true, if_false, Bool.false_eq_true, ↓reduceIte]
      try rw [i64_of (by omega) (by omega)]
      refine hag2 (qs.length - (i + 1)) _ _ (by omega) ⟨i + 1, rfl, rfl, by omega, ?_⟩
      have h := h.drop
      exact (h.perm (show _ = pts fb (.cells (fcells f).toArray 35 (0, 0)) * sI p s' b c (sI p2 s b2 c2 (osl 3 1 (.slice (some ⟨eb, 0, none⟩) qs.length ec) qs.length ((qs.map Fam.id).map iv) * (rI q rs vf vt H))) by unfold sI rI; ac_rfl)).drop
  clear hag2 hge
  refine lp_nat (fun r σ w => ∃ (j : Nat), σ = [.int .i64 (j : Int)] ∧ r = 20 - j ∧ j ≤ 20 ∧ sat E w (sI p s' b c (sI p2 s b2 c2 (osl 3 1 (.slice ea qs.length ec) qs.length ((qs.map Fam.id).map iv) * (rI q rs vf vt H))))) 20 ⟨0, rfl, by omega, by omega, h⟩ ?_
  clear h
  rintro r σ w again4 ⟨j, rfl, rfl, hj, h⟩ hag4
  rw [pop_cons, fin_nil, o_len, two_lss]
  refine cd_dec (fun hlt => ?_) (fun hge => ?_)
  · have hj1 : j < ss.length := by omega
    have hy : ss[j]? = some ss[j] := List.getElem?_eq_getElem hj1
    have hym : ss[j] ∈ ss := List.getElem_mem hj1
    generalize ss[j] = y at hy hym
    obtain ⟨tb, to_, _, te, _, hsv⟩ := (hsR0 (X := osl 3 1 (.slice ea qs.length ec) qs.length ((qs.map Fam.id).map iv))).opened h (by simp; omega)
    cases te
    rw [o_index (by omega) (by omega), Int.toNat_natCast]
    refine ld_rd h hsv j (by omega) (v := .int .i64 y) (by rw [List.getElem?_map, hy]; rfl) ?_
    refine Families_spec (n := y) okd (by omega) h fun fv_ w h => ?_
    rw [hqn y hym] at h
    obtain ⟨ta, tc, rfl, _, _, _⟩ := osl_shape h
    rw [o_len, o_neInt, show (!decide ((([] : List Fam).length : Int) = 0)) = false from rfl, cd_false, o_add, i64_of (by omega) (by omega)]
    exact hag4 (20 - (j + 1)) _ _ (by omega) ⟨j + 1, rfl, rfl, by omega, h.drop⟩
  · have hdL : Dbt (sI p2 s b2 c2 (osl 3 1 (.slice ea qs.length ec) qs.length ((qs.map Fam.id).map iv) * (rI q rs vf vt H))) := by unfold rI; exact hd.right.right.right.right.right.right.right
    refine Rows_spec okd (by omega) (by omega) hdL h hS fun ra rc w h => ?_
    rw [o_len]
    have h := h.perm (show _ = sI p2 s b2 c2 (sI p s' b c (osl 3 1 (.slice ea qs.length ec) qs.length ((qs.map Fam.id).map iv) * (rI q rs vf vt H))) by unfold sI rI; ac_rfl)
    have hdL2 : Dbt (sI p s' b c (osl 3 1 (.slice ea qs.length ec) qs.length ((qs.map Fam.id).map iv) * (rI q rs vf vt H))) := by unfold rI; exact hd.right.right.right.right.right.right.right
    refine Rows_spec ok (by omega) (by omega) hdL2 h hS fun ra2 rc2 w h => ?_
    rw [o_len, o_leq, decide_eq_true (by omega)]
    unfold sI rI at h
    exact k w h.drop.drop.drop.drop.drop.drop.drop.drop.drop.drop
end Go.Proofs.YtbcimkjgpplcpaaGreatDoor.T
