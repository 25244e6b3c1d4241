/-
  Clients and consents: their keys, how they are held, looking one up.
-/
import Derived.Test.YtmnaalpjhkkglaaDoorGrP
import Derived.Test.YtmnaalpjhkkglaaDoorNames
import Derived.Test.YtmnaalpjhkkglaaDoorElems
import Derived.Test.YtmnaalpjhkkglaaDoorPI
import Derived.Test.YtmnaalpjhkkglaaDoorPB
import Derived.Test.YtmnaalpjhkkglaaDoorStructs
set_option linter.all false
set_option maxRecDepth 100000
namespace Hold.Mk
open Go Hold
variable {κ : Type} [DecidableEq κ] [KeyEnc κ] {P : Program} {E : World0} {w : World} {H R : HP} {K : Value → World → Prop}
section
variable {t kt vt b : Nat} {l : List (κ × Value)} {k : κ} {z : Value}
theorem run_look (h : sat E w H) [i : Ul P t (.map kt vt)] [j : KeyOk P kt κ] [q : ZeroC P vt z] [s : OwnM H b l R] :
    (Instr.lookup t (.map (some b)) (ke k) true).run P w = .ok (match lookM l k with | some v => .tuple #[v, .bool true] | none => .tuple #[z, .bool false]) w := by
  obtain ⟨ns, c, st, hp⟩ := sat_omap.1 (h.perm s.eq)
  have hb := hp.pts_get
  have hf := j.find k st.len w
  unfold lookM
  cases hx : findM l k with
  | none => rw [hx] at hf; simp [Instr.lookup, run_underlying' i.ul, getObj_at hb, j.check, hf, run_zero q]
  | some y => rw [hx] at hf; simp [Instr.lookup, run_underlying' i.ul, getObj_at hb, j.check, hf]
theorem look_no (h : sat E w H) [i : Ul P t (.map kt vt)] [j : KeyOk P kt κ] [q : ZeroC P vt z] [s : OwnM H b l R] (hx : lookM l k = none) (kk : K (.tuple #[z, .bool false]) w) : ldv P (Instr.lookup t (.map (some b)) (ke k) true) w K := by
  have := run_look (P := P) (t := t) (kt := kt) (vt := vt) (b := b) (l := l) (R := R) (z := z) (k := k) h
  rw [hx] at this
  exact ldv_of this kk
theorem look_yes (h : sat E w H) [i : Ul P t (.map kt vt)] [j : KeyOk P kt κ] [q : ZeroC P vt z] [s : OwnM H b l R] {v : Value} (hx : lookM l k = some v) (kk : K (.tuple #[v, .bool true]) w) : ldv P (Instr.lookup t (.map (some b)) (ke k) true) w K := by
  have := run_look (P := P) (t := t) (kt := kt) (vt := vt) (b := b) (l := l) (R := R) (z := z) (k := k) h
  rw [hx] at this
  exact ldv_of this kk
theorem st_no (h : sat E w H) {g : Gd} {A : Prop} [i : Ul P t (.map kt vt)] [j : KeyOk P kt κ] [q : ZeroC P vt z] [s : OwnM H b l R] (hx : lookM l k = none) (kk : A) : stv P g (Instr.lookup t (.map (some b)) (ke k) true) (.tuple #[z, .bool false]) w A := by
  have := run_look (P := P) (t := t) (kt := kt) (vt := vt) (b := b) (l := l) (R := R) (z := z) (k := k) h
  rw [hx] at this
  exact stv_of this kk
theorem st_yes (h : sat E w H) {g : Gd} {A : Prop} [i : Ul P t (.map kt vt)] [j : KeyOk P kt κ] [q : ZeroC P vt z] [s : OwnM H b l R] {v : Value} (hx : lookM l k = some v) (kk : A) : stv P g (Instr.lookup t (.map (some b)) (ke k) true) (.tuple #[v, .bool true]) w A := by
  have := run_look (P := P) (t := t) (kt := kt) (vt := vt) (b := b) (l := l) (R := R) (z := z) (k := k) h
  rw [hx] at this
  exact stv_of this kk
end
end Hold.Mk
namespace Go.Proofs.YtmnaalpjhkkglaaDoor
open Go Hold
variable {E : World0} {w : World} {H R : HP} {K : Value → World → Prop}
theorem eq_str (d : Nat) (a b : List UInt8) (w : World) : (Op.equalIn (d + 1) 9 (tv a) (tv b)).run prog w = .ok (decide (a = b)) w := by
  have := run_equalIn_string (P := prog) w d 9 ⟨a.toArray⟩ ⟨b.toArray⟩ ul_9.ul
  rw [beq_lists] at this
  exact this
theorem run_eq2 {t : Nat} {f g : Field} (e : (prog.fieldsOf t).toList = [f, g]) (h1 : (f.name == "_") = false) (h2 : (g.name == "_") = false) (t1 : f.type = 9) (o1 : f.offset = 0) (t2 : g.type = 9) (o2 : g.offset = 1)
    (d : Nat) (a b a' b' : List UInt8) (w : World) : (Op.eqFields (d + 1) #[tv a, tv b] #[tv a', tv b'] (prog.fieldsOf t).toList).run prog w = .ok (decide (a = a') && decide (b = b')) w := by
  rw [e]
  have h9 := run_eqField (P := prog) (w := w) (d := d + 1) (xs := #[tv a, tv b]) (ys := #[tv a', tv b']) (fs := [g]) h1 (a := tv a) (b := tv a') (by rw [t1, o1]; exact run_part1 rfl) (by rw [t1, o1]; exact run_part1 rfl) (by rw [t1]; exact eq_str d _ _ w)
    (run_eqField h2 (a := tv b) (b := tv b') (by rw [t2, o2]; exact run_part1 rfl) (by rw [t2, o2]; exact run_part1 rfl) (by rw [t2]; exact eq_str d _ _ w) run_eqNone)
  rw [h9, Bool.and_true]
theorem flds46 : ∃ f g : Field, (prog.fieldsOf 46).toList = [f, g] ∧ (f.name == "_") = false ∧ (g.name == "_") = false ∧ f.type = 9 ∧ f.offset = 0 ∧ g.type = 9 ∧ g.offset = 1 :=
  ⟨(prog.fieldsOf 46).toList.getD 0 default, (prog.fieldsOf 46).toList.getD 1 default, by kernel_rfl, by kernel_rfl, by kernel_rfl, by kernel_rfl, by kernel_rfl, by kernel_rfl, by kernel_rfl⟩
theorem flds101 : ∃ f g : Field, (prog.fieldsOf 101).toList = [f, g] ∧ (f.name == "_") = false ∧ (g.name == "_") = false ∧ f.type = 9 ∧ f.offset = 0 ∧ g.type = 9 ∧ g.offset = 1 :=
  ⟨(prog.fieldsOf 101).toList.getD 0 default, (prog.fieldsOf 101).toList.getD 1 default, by kernel_rfl, by kernel_rfl, by kernel_rfl, by kernel_rfl, by kernel_rfl, by kernel_rfl, by kernel_rfl⟩
theorem flds104 : ∃ f g : Field, (prog.fieldsOf 104).toList = [f, g] ∧ (f.name == "_") = false ∧ (g.name == "_") = false ∧ f.type = 46 ∧ f.offset = 0 ∧ g.type = 9 ∧ g.offset = 2 :=
  ⟨(prog.fieldsOf 104).toList.getD 0 default, (prog.fieldsOf 104).toList.getD 1 default, by kernel_rfl, by kernel_rfl, by kernel_rfl, by kernel_rfl, by kernel_rfl, by kernel_rfl, by kernel_rfl⟩
theorem run_eq46 (d : Nat) (a b a' b' : List UInt8) (w : World) : (Op.eqFields (d + 1) #[tv a, tv b] #[tv a', tv b'] (prog.fieldsOf 46).toList).run prog w = .ok (decide (a = a') && decide (b = b')) w := by
  obtain ⟨f, g, e, h1, h2, t1, o1, t2, o2⟩ := flds46
  exact run_eq2 e h1 h2 t1 o1 t2 o2 d a b a' b' w
theorem run_eq101 (d : Nat) (a b a' b' : List UInt8) (w : World) : (Op.eqFields (d + 1) #[tv a, tv b] #[tv a', tv b'] (prog.fieldsOf 101).toList).run prog w = .ok (decide (a = a') && decide (b = b')) w := by
  obtain ⟨f, g, e, h1, h2, t1, o1, t2, o2⟩ := flds101
  exact run_eq2 e h1 h2 t1 o1 t2 o2 d a b a' b' w
theorem run_eq104 (d : Nat) (a b c a' b' c' : List UInt8) (w : World) : (Op.eqFields (d + 3) #[tv a, tv b, tv c] #[tv a', tv b', tv c'] (prog.fieldsOf 104).toList).run prog w = .ok ((decide (a = a') && decide (b = b')) && decide (c = c')) w := by
  obtain ⟨f, g, e, h1, h2, t1, o1, t2, o2⟩ := flds104
  rw [e]
  have x1 : ∀ a b c : List UInt8, (#[tv a, tv b, tv c] : Array Value).extract 0 (0 + 2) = #[tv a, tv b] := fun a b c => by
    apply Array.ext'
    simp
  have h9 := run_eqField (P := prog) (w := w) (d := d + 3) (xs := #[tv a, tv b, tv c]) (ys := #[tv a', tv b', tv c']) (fs := [g]) h1 (a := .agg #[tv a, tv b]) (b := .agg #[tv a', tv b']) (p := decide (a = a') && decide (b = b'))
    (by rw [t1, o1, run_partN (n := 2), x1]) (by rw [t1, o1, run_partN (n := 2), x1])
    (by rw [t1, run_equalIn_struct w (d + 2) 46 _ _ (by kernel_rfl) (by kernel_rfl)]; exact run_eq46 (d + 1) _ _ _ _ w)
    (run_eqField h2 (a := tv c) (b := tv c') (by rw [t2, o2]; exact run_part1 rfl) (by rw [t2, o2]; exact run_part1 rfl) (by rw [t2]; exact eq_str (d + 2) _ _ w) run_eqNone)
  rw [h9, Bool.and_true]
theorem eq46 {a b a' b' : List UInt8} {xo yo : Operand} : pvv prog (oEq .eql 46 xo yo (.agg #[tv a, tv b]) (.agg #[tv a', tv b'])) w K = K (.bool (decide (a = a') && decide (b = b'))) w :=
  o_eqStruct (by kernel_rfl) (by kernel_rfl) (by kernel_rfl) (run_eq46 9998 a b a' b')
instance keyok101 : Mk.KeyOk prog 101 K2 where
  find := Mk.find_ask (kd := .struct (prog.fieldsOf 101)) (by kernel_rfl) (fun _ _ => rfl) (fun k k' w => by
    show (Op.equalIn 10000 101 (.agg #[tv k.t, tv k.n]) (.agg #[tv k'.t, tv k'.n])).run prog w = _
    rw [run_equalIn_struct w 9999 101 _ _ (by kernel_rfl) (by kernel_rfl), run_eq101 9998]
    congr 1
    rw [Bool.eq_iff_iff]
    obtain ⟨a, b⟩ := k
    obtain ⟨c, d⟩ := k'
    simp)
  check := fun {k b w} => by kernel_rfl
  bits := fun k => by
    show Instr.sameBits (9999 + 1) (.agg #[tv k.t, tv k.n]) (.agg #[tv k.t, tv k.n]) = true
    simp [Instr.sameBits, tv, Mk.beq_arr]
instance keyok104 : Mk.KeyOk prog 104 K3 where
  find := Mk.find_ask (kd := .struct (prog.fieldsOf 104)) (by kernel_rfl) (fun _ _ => rfl) (fun k k' w => by
    show (Op.equalIn 10000 104 (.agg #[tv k.t, tv k.u, tv k.c]) (.agg #[tv k'.t, tv k'.u, tv k'.c])).run prog w = _
    rw [run_equalIn_struct w 9999 104 _ _ (by kernel_rfl) (by kernel_rfl), run_eq104 9996]
    congr 1
    rw [Bool.eq_iff_iff]
    obtain ⟨a, b, c⟩ := k
    obtain ⟨d, e, f⟩ := k'
    simp [and_assoc])
  check := fun {k b w} => by kernel_rfl
  bits := fun k => by
    show Instr.sameBits (9999 + 1) (.agg #[tv k.t, tv k.u, tv k.c]) (.agg #[tv k.t, tv k.u, tv k.c]) = true
    simp [Instr.sameBits, tv, Mk.beq_arr]
/-! Structs in blocks. -/
def zero4 : List Value := [tv [], tv [], tv [], .int .u8 0]
def k2cells (k : K2) : List Value := [tv k.t, tv k.n]
def k3cells (k : K3) : List Value := [tv k.t, tv k.u, tv k.c]
def ocl (t u : List UInt8) : List Value := [tv t, tv u]
structure CS where
  k : K3
  s : UInt8
def cscells (x : CS) : List Value := [tv x.k.t, tv x.k.u, tv x.k.c, bv x.s]
theorem cs_one (x : CS) : ∀ v ∈ cscells x, v.oneCell' = true := by intro v hv; simp [cscells] at hv; rcases hv with rfl | rfl | rfl | rfl <;> rfl
theorem zero4_one : ∀ v ∈ zero4, v.oneCell' = true := by intro v hv; simp [zero4] at hv; rcases hv with rfl | rfl <;> rfl
theorem cc_one (x : K2) : ∀ v ∈ ccells x, v.oneCell' = true := by intro v hv; simp [ccells] at hv; rcases hv with rfl | rfl | rfl | rfl <;> rfl
theorem k2_one (x : K2) : ∀ v ∈ k2cells x, v.oneCell' = true := by intro v hv; simp [k2cells] at hv; rcases hv with rfl | rfl <;> rfl
theorem k3_one (x : K3) : ∀ v ∈ k3cells x, v.oneCell' = true := by intro v hv; simp [k3cells] at hv; rcases hv with rfl | rfl | rfl <;> rfl
theorem ocl_one (t u : List UInt8) : ∀ v ∈ ocl t u, v.oneCell' = true := by intro v hv; simp [ocl] at hv; rcases hv with rfl | rfl <;> rfl
theorem cl_in (h : sat E w H) {xs : List Value} (hx : xs.length = 4) (h1 : ∀ x ∈ xs, x.oneCell' = true) {K : Value → World → Prop} (k : ∀ b w', sat E w' (pts b (.cells xs.toArray 50 (0, 0)) * H) → K (.pointer (some ⟨b, 0, none⟩)) w') :
    efv prog (Instr.alloc 50 true (.tuple #[])) w fun x' w => efu prog (Instr.storeAt 50 x' (.agg xs.toArray)) w fun _ w => K x' w := by
  refine alloc_sl h fun b w h => ?_
  have h : sat E w (pts b (.cells zero4.toArray 50 (0, 0)) * H) := h
  exact store_all (b := b) h (xs := zero4) (vs := xs) rfl hx h1 fun w h => k b w h
theorem nm_in (h : sat E w H) {xs : List Value} (hx : xs.length = 2) (h1 : ∀ x ∈ xs, x.oneCell' = true) {K : Value → World → Prop} (k : ∀ b w', sat E w' (pts b (.cells xs.toArray 101 (0, 0)) * H) → K (.pointer (some ⟨b, 0, none⟩)) w') :
    efv prog (Instr.alloc 101 true (.tuple #[])) w fun x' w => efu prog (Instr.storeAt 101 x' (.agg xs.toArray)) w fun _ w => K x' w := by
  refine alloc_sl h fun b w h => ?_
  have h : sat E w (pts b (.cells (ocl [] []).toArray 101 (0, 0)) * H) := h
  exact store_all (b := b) h (xs := ocl [] []) (vs := xs) rfl hx h1 fun w h => k b w h
theorem us_in (h : sat E w H) {xs : List Value} (hx : xs.length = 3) (h1 : ∀ x ∈ xs, x.oneCell' = true) {K : Value → World → Prop} (k : ∀ b w', sat E w' (pts b (.cells xs.toArray 104 (0, 0)) * H) → K (.pointer (some ⟨b, 0, none⟩)) w') :
    efv prog (Instr.alloc 104 true (.tuple #[])) w fun x' w => efu prog (Instr.storeAt 104 x' (.agg xs.toArray)) w fun _ w => K x' w := by
  refine alloc_sl h fun b w h => ?_
  have h : sat E w (pts b (.cells (k3cells ⟨[], [], []⟩).toArray 104 (0, 0)) * H) := h
  exact store_all (b := b) h (xs := k3cells ⟨[], [], []⟩) (vs := xs) rfl hx h1 fun w h => k b w h
theorem ow_in (h : sat E w H) {xs : List Value} (hx : xs.length = 2) (h1 : ∀ x ∈ xs, x.oneCell' = true) {K : Value → World → Prop} (k : ∀ b w', sat E w' (pts b (.cells xs.toArray 46 (0, 0)) * H) → K (.pointer (some ⟨b, 0, none⟩)) w') :
    efv prog (Instr.alloc 46 true (.tuple #[])) w fun x' w => efu prog (Instr.storeAt 46 x' (.agg xs.toArray)) w fun _ w => K x' w := by
  refine alloc_sl h fun b w h => ?_
  have h : sat E w (pts b (.cells (ocl [] []).toArray 46 (0, 0)) * H) := h
  exact store_all (b := b) h (xs := ocl [] []) (vs := xs) rfl hx h1 fun w h => k b w h
theorem cs_in (h : sat E w H) {xs : List Value} (hx : xs.length = 4) (h1 : ∀ x ∈ xs, x.oneCell' = true) {K : Value → World → Prop} (k : ∀ b w', sat E w' (pts b (.cells xs.toArray 53 (0, 0)) * H) → K (.pointer (some ⟨b, 0, none⟩)) w') :
    efv prog (Instr.alloc 53 true (.tuple #[])) w fun x' w => efu prog (Instr.storeAt 53 x' (.agg xs.toArray)) w fun _ w => K x' w := by
  refine alloc_sl h fun b w h => ?_
  have h : sat E w (pts b (.cells zero4.toArray 53 (0, 0)) * H) := h
  exact store_all (b := b) h (xs := zero4) (vs := xs) rfl hx h1 fun w h => k b w h
theorem cl_ret (h : sat E w H) {b : Nat} {xs zs : List Value} (hx : xs.length = 4) (h1 : ∀ x ∈ xs, x.oneCell' = true) [Own H b (.cells zs.toArray 50 (0, 0)) R] (hz : zs.length = 4) {e : Int}
    (k : ∀ w', sat E w' (pts b (.cells xs.toArray 50 (0, 0)) * R) → K (.tuple #[.agg xs.toArray, .int .i64 e]) w') :
    efu prog (Instr.storeAt 50 (.pointer (some ⟨b, 0, none⟩)) (.agg xs.toArray)) w fun _ w => ∃ r, (do loadVar 50 (← asAddr (.pointer (some ⟨b, 0, none⟩)))).run prog w = .ok r w ∧ K (.tuple #[r, .int .i64 e]) w :=
  res_all (K := fun r w => K (.tuple #[r, .int .i64 e]) w) (b := b) h hz hx h1 k
theorem cs_ret (h : sat E w H) {b : Nat} {xs zs : List Value} (hx : xs.length = 4) (h1 : ∀ x ∈ xs, x.oneCell' = true) [Own H b (.cells zs.toArray 53 (0, 0)) R] (hz : zs.length = 4) {e : Int}
    (k : ∀ w', sat E w' (pts b (.cells xs.toArray 53 (0, 0)) * R) → K (.tuple #[.agg xs.toArray, .int .i64 e]) w') :
    efu prog (Instr.storeAt 53 (.pointer (some ⟨b, 0, none⟩)) (.agg xs.toArray)) w fun _ w => ∃ r, (do loadVar 53 (← asAddr (.pointer (some ⟨b, 0, none⟩)))).run prog w = .ok r w ∧ K (.tuple #[r, .int .i64 e]) w :=
  res_all (K := fun r w => K (.tuple #[r, .int .i64 e]) w) (b := b) h hz hx h1 k
/-- How clients and consents are held. -/
def gcells (a b : Nat) : List Value := [.map (some a), .map (some b)]
abbrev gI (p a b : Nat) (cl : List (K2 × Value)) (co : List (K3 × Value)) (R : HP) : HP := pts p (.cells (gcells a b).toArray 94 (0, 0)) * (Mk.omap a cl * (Mk.omap b co * R))
theorem GNew_spec (h : sat E w R) (k : ∀ p a b w', sat E w' (gI p a b [] [] R) → K (.pointer (some ⟨p, 0, none⟩)) w') : Calls prog 12 #[] w (Ret K) := by
  refine c12 ?_
  unfold B12
  refine Mk.make_map K2 h fun a w h => ?_
  refine Mk.make_map K3 h fun b w h => ?_
  refine pvv_of (v := .agg (gcells a b).toArray) (fun w => by kernel_rfl) ?_
  refine box_sl h fun p w h => k p a b w ?_
  have h : sat E w (pts p (.cells (gcells a b).toArray 94 (0, 0)) * (Mk.omap b ([] : List (K3 × Value)) * (Mk.omap a ([] : List (K2 × Value)) * R))) := h
  exact h.perm (by (try unfold gI); ac_rfl)
section
variable {p a b : Nat} {cl : List (K2 × Value)} {co : List (K3 × Value)}
theorem look_spec {t n : List UInt8} (hc : ∀ x ∈ cl, x.2 = cvv x.1) (h : sat E w (gI p a b cl co R))
    (k0 : (∀ y ∈ cl, y.1 ≠ ⟨t, n⟩) → ∀ w', sat E w' (gI p a b cl co R) → K (.tuple #[.agg zero4.toArray, .int .i64 4]) w')
    (k1 : (∃ y ∈ cl, y.1 = ⟨t, n⟩) → ∀ w', sat E w' (gI p a b cl co R) → K (.tuple #[cvv ⟨t, n⟩, .int .i64 0]) w') : Calls prog 35 #[.pointer (some ⟨p, 0, none⟩), tv t, tv n] w (Ret K) := by
  refine c35 ?_
  unfold B35
  refine alloc_sl h fun b0 w h => ?_
  have h : sat E w (pts b0 (.cells zero4.toArray 50 (0, 0)) * gI p a b cl co R) := h
  simp only [↓o_nil, ↓o_field, ↓o_add, ↓o_sub, ↓o_mul, ↓o_lss, ↓o_leq, ↓o_gtr, ↓o_geq, ↓o_not, ↓o_pick, ↓o_eqInt, ↓o_neInt, ↓o_eqBool, ↓o_neBool, ↓o_eqPtr, ↓o_nePtr, ↓o_eqPtr', ↓o_eqSl, ↓o_neSl, ↓o_eqStr, ↓o_neStr, ↓o_len, ↓o_lenS, ↓o_min, ↓o_max, ↓o_extract, ↓o_convInt, ↓cd_true, ↓cd_false, ↓gate_tt, ↓gate_ff, ↓gate_tf, ↓gate_ft, ↓gate_undef, ↓o_bind, ↓stay_v, ↓pop_cons, ↓fin_nil, Option.isNone_none, Option.isNone_some, Bool.not_true, Bool.not_false, Nat.zero_add, decide_true, decide_false, if_true, if_false, Bool.false_eq_true, ↓reduceIte]
  refine ld_in (b := p) (v := .map (some a)) h rfl ?_
  refine pvv_of (v := Mk.ke (⟨t, n⟩ : K2)) (fun w => by kernel_rfl) ?_
  cases hx : Mk.lookM cl ⟨t, n⟩ with
  | none =>
    refine Mk.look_no (b := a) (l := cl) (k := ⟨t, n⟩) h hx ?_
    rw [o_extract, o_extract]
    refine cl_in h (xs := zero4) rfl zero4_one fun cb w h => ?_
    simp only [↓o_nil, ↓o_field, ↓o_add, ↓o_sub, ↓o_mul, ↓o_lss, ↓o_leq, ↓o_gtr, ↓o_geq, ↓o_not, ↓o_pick, ↓o_eqInt, ↓o_neInt, ↓o_eqBool, ↓o_neBool, ↓o_eqPtr, ↓o_nePtr, ↓o_eqPtr', ↓o_eqSl, ↓o_neSl, ↓o_eqStr, ↓o_neStr, ↓o_len, ↓o_lenS, ↓o_min, ↓o_max, ↓o_extract, ↓o_convInt, ↓cd_true, ↓cd_false, ↓gate_tt, ↓gate_ff, ↓gate_tf, ↓gate_ft, ↓gate_undef, ↓o_bind, ↓stay_v, ↓pop_cons, ↓fin_nil, Option.isNone_none, Option.isNone_some, Bool.not_true, Bool.not_false, Nat.zero_add, decide_true, decide_false, if_true, if_false, Bool.false_eq_true, ↓reduceIte]
    refine pvv_of (v := .agg zero4.toArray) (fun w => by kernel_rfl) ?_
    exact cl_ret (b := b0) h rfl zero4_one (zs := zero4) rfl fun w h => k0 (Mk.findM_none (Mk.lookM_none hx)) w h.drop.drop
  | some v =>
    have hm := Mk.lookM_mem hx
    have hv := hc _ hm
    simp only at hv
    subst hv
    refine Mk.look_yes (b := a) (l := cl) (k := ⟨t, n⟩) h hx ?_
    rw [o_extract, o_extract]
    refine cl_in h (xs := ccells ⟨t, n⟩) rfl (cc_one _) fun cb w h => ?_
    simp only [↓o_nil, ↓o_field, ↓o_add, ↓o_sub, ↓o_mul, ↓o_lss, ↓o_leq, ↓o_gtr, ↓o_geq, ↓o_not, ↓o_pick, ↓o_eqInt, ↓o_neInt, ↓o_eqBool, ↓o_neBool, ↓o_eqPtr, ↓o_nePtr, ↓o_eqPtr', ↓o_eqSl, ↓o_neSl, ↓o_eqStr, ↓o_neStr, ↓o_len, ↓o_lenS, ↓o_min, ↓o_max, ↓o_extract, ↓o_convInt, ↓cd_true, ↓cd_false, ↓gate_tt, ↓gate_ff, ↓gate_tf, ↓gate_ft, ↓gate_undef, ↓o_bind, ↓stay_v, ↓pop_cons, ↓fin_nil, Option.isNone_none, Option.isNone_some, Bool.not_true, Bool.not_false, Nat.zero_add, decide_true, decide_false, if_true, if_false, Bool.false_eq_true, ↓reduceIte]
    refine ld_agg (b := cb) h rfl ?_
    exact cl_ret (b := b0) h rfl (cc_one _) (zs := zero4) rfl fun w h => k1 ⟨_, hm, rfl⟩ w h.drop.drop
theorem GClient_spec {t n : List UInt8} (hc : ∀ x ∈ cl, x.2 = cvv x.1) (h : sat E w (gI p a b cl co R))
    (k0 : (∀ y ∈ cl, y.1 ≠ ⟨t, n⟩) → ∀ w', sat E w' (gI p a b cl co R) → K (.tuple #[.agg zero4.toArray, .int .i64 4]) w')
    (k1 : (∃ y ∈ cl, y.1 = ⟨t, n⟩) → ∀ w', sat E w' (gI p a b cl co R) → K (.tuple #[cvv ⟨t, n⟩, .int .i64 0]) w') : Calls prog 19 #[.pointer (some ⟨p, 0, none⟩), tv t, tv n] w (Ret K) := by
  refine c19 ?_
  unfold B19
  refine alloc_sl h fun b0 w h => ?_
  have h : sat E w (pts b0 (.cells zero4.toArray 50 (0, 0)) * gI p a b cl co R) := h
  have h := h.perm (show _ = gI p a b cl co (pts b0 (.cells zero4.toArray 50 (0, 0)) * R) by (try unfold gI); ac_rfl)
  refine look_spec hc h (fun hn w h => ?_) (fun hn w h => ?_)
  · rw [o_extract, o_extract]
    exact cl_ret (b := b0) h rfl zero4_one (zs := zero4) rfl fun w h => k0 hn w h.drop
  · rw [o_extract, o_extract]
    exact cl_ret (b := b0) h rfl (cc_one _) (zs := zero4) rfl fun w h => k1 hn w h.drop
theorem GConsent_spec {t u n : List UInt8} (hv : ∀ x ∈ co, ∃ s : UInt8, x.2 = bv s) (h : sat E w (gI p a b cl co R))
    (k0 : ∀ w', sat E w' (gI p a b cl co R) → K (.tuple #[.agg zero4.toArray, .int .i64 4]) w')
    (k1 : ∀ s w', ((⟨t, u, n⟩, bv s) : K3 × Value) ∈ co → sat E w' (gI p a b cl co R) → K (.tuple #[.agg (cscells ⟨⟨t, u, n⟩, s⟩).toArray, .int .i64 0]) w') : Calls prog 18 #[.pointer (some ⟨p, 0, none⟩), .agg (ocl t u).toArray, tv n] w (Ret K) := by
  refine c18 ?_
  unfold B18
  refine box_sl h fun ob w h => ?_
  have h : sat E w (pts ob (.cells (ocl t u).toArray 46 (0, 0)) * gI p a b cl co R) := h
  refine alloc_sl h fun b0 w h => ?_
  have h : sat E w (pts b0 (.cells zero4.toArray 53 (0, 0)) * (pts ob (.cells (ocl t u).toArray 46 (0, 0)) * gI p a b cl co R)) := h
  simp only [↓o_nil, ↓o_field, ↓o_add, ↓o_sub, ↓o_mul, ↓o_lss, ↓o_leq, ↓o_gtr, ↓o_geq, ↓o_not, ↓o_pick, ↓o_eqInt, ↓o_neInt, ↓o_eqBool, ↓o_neBool, ↓o_eqPtr, ↓o_nePtr, ↓o_eqPtr', ↓o_eqSl, ↓o_neSl, ↓o_eqStr, ↓o_neStr, ↓o_len, ↓o_lenS, ↓o_min, ↓o_max, ↓o_extract, ↓o_convInt, ↓cd_true, ↓cd_false, ↓gate_tt, ↓gate_ff, ↓gate_tf, ↓gate_ft, ↓gate_undef, ↓o_bind, ↓stay_v, ↓pop_cons, ↓fin_nil, Option.isNone_none, Option.isNone_some, Bool.not_true, Bool.not_false, Nat.zero_add, decide_true, decide_false, if_true, if_false, Bool.false_eq_true, ↓reduceIte]
  refine dr_sl h fun w h _ => ?_
  try simp only [↓o_nil, ↓o_field, ↓o_add, ↓o_sub, ↓o_mul, ↓o_lss, ↓o_leq, ↓o_gtr, ↓o_geq, ↓o_not, ↓o_pick, ↓o_eqInt, ↓o_neInt, ↓o_eqBool, ↓o_neBool, ↓o_eqPtr, ↓o_nePtr, ↓o_eqPtr', ↓o_eqSl, ↓o_neSl, ↓o_eqStr, ↓o_neStr, ↓o_len, ↓o_lenS, ↓o_min, ↓o_max, ↓o_extract, ↓o_convInt, ↓cd_true, ↓cd_false, ↓gate_tt, ↓gate_ff, ↓gate_tf, ↓gate_ft, ↓gate_undef, ↓o_bind, ↓stay_v, ↓pop_cons, ↓fin_nil, Option.isNone_none, Option.isNone_some, Bool.not_true, Bool.not_false, Nat.zero_add, decide_true, decide_false, if_true, if_false, Bool.false_eq_true, ↓reduceIte]
  refine ld_in (b := p) (v := .map (some b)) h rfl ?_
  refine ld_agg (b := ob) h rfl ?_
  refine pvv_of (v := Mk.ke (⟨t, u, n⟩ : K3)) (fun w => by kernel_rfl) ?_
  try simp only [↓o_nil, ↓o_field, ↓o_add, ↓o_sub, ↓o_mul, ↓o_lss, ↓o_leq, ↓o_gtr, ↓o_geq, ↓o_not, ↓o_pick, ↓o_eqInt, ↓o_neInt, ↓o_eqBool, ↓o_neBool, ↓o_eqPtr, ↓o_nePtr, ↓o_eqPtr', ↓o_eqSl, ↓o_neSl, ↓o_eqStr, ↓o_neStr, ↓o_len, ↓o_lenS, ↓o_min, ↓o_max, ↓o_extract, ↓o_convInt, ↓cd_true, ↓cd_false, ↓gate_tt, ↓gate_ff, ↓gate_tf, ↓gate_ft, ↓gate_undef, ↓o_bind, ↓stay_v, ↓pop_cons, ↓fin_nil, Option.isNone_none, Option.isNone_some, Bool.not_true, Bool.not_false, Nat.zero_add, decide_true, decide_false, if_true, if_false, Bool.false_eq_true, ↓reduceIte]
  cases hx : Mk.lookM co ⟨t, u, n⟩ with
  | none =>
    refine Mk.look_no (b := b) (l := co) (k := ⟨t, u, n⟩) h hx ?_
    simp only [↓o_nil, ↓o_field, ↓o_add, ↓o_sub, ↓o_mul, ↓o_lss, ↓o_leq, ↓o_gtr, ↓o_geq, ↓o_not, ↓o_pick, ↓o_eqInt, ↓o_neInt, ↓o_eqBool, ↓o_neBool, ↓o_eqPtr, ↓o_nePtr, ↓o_eqPtr', ↓o_eqSl, ↓o_neSl, ↓o_eqStr, ↓o_neStr, ↓o_len, ↓o_lenS, ↓o_min, ↓o_max, ↓o_extract, ↓o_convInt, ↓cd_true, ↓cd_false, ↓gate_tt, ↓gate_ff, ↓gate_tf, ↓gate_ft, ↓gate_undef, ↓o_bind, ↓stay_v, ↓pop_cons, ↓fin_nil, Option.isNone_none, Option.isNone_some, Bool.not_true, Bool.not_false, Nat.zero_add, decide_true, decide_false, if_true, if_false, Bool.false_eq_true, ↓reduceIte]
    refine pvv_of (v := .agg zero4.toArray) (fun w => by kernel_rfl) ?_
    exact cs_ret (b := b0) h rfl zero4_one (zs := zero4) rfl fun w h => k0 w h.drop.drop
  | some v =>
    have hm := Mk.lookM_mem hx
    obtain ⟨s, e⟩ := hv _ hm
    simp only at e
    subst e
    refine Mk.look_yes (b := b) (l := co) (k := ⟨t, u, n⟩) h hx ?_
    simp only [↓o_nil, ↓o_field, ↓o_add, ↓o_sub, ↓o_mul, ↓o_lss, ↓o_leq, ↓o_gtr, ↓o_geq, ↓o_not, ↓o_pick, ↓o_eqInt, ↓o_neInt, ↓o_eqBool, ↓o_neBool, ↓o_eqPtr, ↓o_nePtr, ↓o_eqPtr', ↓o_eqSl, ↓o_neSl, ↓o_eqStr, ↓o_neStr, ↓o_len, ↓o_lenS, ↓o_min, ↓o_max, ↓o_extract, ↓o_convInt, ↓cd_true, ↓cd_false, ↓gate_tt, ↓gate_ff, ↓gate_tf, ↓gate_ft, ↓gate_undef, ↓o_bind, ↓stay_v, ↓pop_cons, ↓fin_nil, Option.isNone_none, Option.isNone_some, Bool.not_true, Bool.not_false, Nat.zero_add, decide_true, decide_false, if_true, if_false, Bool.false_eq_true, ↓reduceIte]
    refine ld_agg (b := ob) h rfl ?_
    refine pvv_of (v := .agg (cscells ⟨⟨t, u, n⟩, s⟩).toArray) (fun w => by kernel_rfl) ?_
    exact cs_ret (b := b0) h rfl (cs_one _) (zs := zero4) rfl fun w h => k1 s w hm h.drop.drop
end
end Go.Proofs.YtmnaalpjhkkglaaDoor

/-
  Consents are set in order: the sort of a short row of them (which order: nothing is said).
-/
set_option linter.all false
set_option maxRecDepth 100000
namespace Go.Proofs.YtmnaalpjhkkglaaDoor
open Go Hold
variable {E : World0} {w : World} {H R : HP} {K : Value → World → Prop}
theorem fm_set {α : Type} {cells : α → List Value} {k : Nat} (hc : ∀ x, (cells x).length = k) {l : List α} {i : Nat} (hi : i < l.length) (y : α) (sp : List Value) :
    (l.flatMap cells ++ sp).take (i * k) ++ cells y ++ (l.flatMap cells ++ sp).drop (i * k + k) = (l.set i y).flatMap cells ++ sp := by
  have e : l.flatMap cells ++ sp = (l.take i).flatMap cells ++ (cells l[i] ++ ((l.drop (i + 1)).flatMap cells ++ sp)) := by
    have e := congrArg (List.flatMap cells) (List.take_append_drop i l)
    rw [List.drop_eq_getElem_cons hi, List.flatMap_append, List.flatMap_cons] at e
    rw [← e]
    simp only [List.append_assoc]
  have l1 : ((l.take i).flatMap cells).length = i * k := by rw [fm_length hc, List.length_take, Nat.min_eq_left (by omega)]
  rw [e, List.take_left' l1, ← List.append_assoc ((l.take i).flatMap cells), List.drop_left' (by rw [List.length_append, l1, hc]), List.set_eq_take_append_cons_drop, if_pos hi, List.flatMap_append, List.flatMap_cons]
  simp only [List.append_assoc]
theorem put_el {ub n c i q : Nat} {l : List CS} (h : sat E w (osl 53 4 (.slice (some ⟨ub, 0, none⟩) n c) n (l.flatMap cscells) * R)) (hn : l.length = n) (hi : i < n) (hq : q = i * 4) (y : CS)
    (k : ∀ w', sat E w' (osl 53 4 (.slice (some ⟨ub, 0, none⟩) n c) n ((l.set i y).flatMap cscells) * R) → K undef w') : efu prog (Instr.storeAt 53 (.pointer (some ⟨ub, q, none⟩)) (.agg (cscells y).toArray)) w K := by
  obtain ⟨b7, c7, sp, e7, hxl, _, hP, hcl⟩ := osl_open h (by omega)
  cases e7
  have hle : q + 4 ≤ (l.flatMap cscells ++ sp).length := by rw [List.length_append, hxl]; omega
  have hst := fm_set (k := 4) (cells := cscells) (fun _ => rfl) (l := l) (i := i) (by omega) y sp
  rw [← hq] at hst
  refine store_part (b := ub) hP ((l.set i y).flatMap cscells ++ sp) (vs := cscells y) rfl (cs_one y) hle hst fun w h => ?_
  exact k w (hcl (by rw [fm_length (k := 4) (fun _ => rfl), fm_length (k := 4) (fun _ => rfl), List.length_set]) h)
theorem NaN_spec {x : List UInt8} (h : sat E w H) (k : ∀ w', sat E w' H → K (.bool false) w') : Calls prog 66 #[tv x] w (Ret K) := by
  refine c66 ?_
  unfold B66
  rw [o_neT, decide_eq_true rfl]
  exact k w h
theorem Compare_spec {x y : List UInt8} (h : sat E w H) (k : ∀ (z : Int) w', sat E w' H → K (.int .i64 z) w') : Calls prog 49 #[tv x, tv y] w (Ret K) := by
  refine c49 ?_
  unfold B49
  refine NaN_spec h fun w h => ?_
  refine NaN_spec h fun w h => ?_
  rw [cd_false, cd_false, o_lssT]
  obtain ⟨q, hq⟩ : ∃ q, ∀ w, (binOp .gtr 9 (tv x) (tv y)).run prog w = .ok (.bool q) w := ⟨_, fun w => rfl⟩
  refine cd_split (fun _ => k _ w h) (fun _ => ?_)
  refine pvv_of hq ?_
  exact cd_split (fun _ => k _ w h) (fun _ => k _ w h)
theorem CmpF_spec {x y : CS} (h : sat E w H) (k : ∀ (z : Int) w', sat E w' H → K (.int .i64 z) w') : ef prog (oCall (.func (.func 48) #[] #[]) #[.agg (cscells x).toArray, .agg (cscells y).toArray]) w K := by
  refine oCall_body Tryd.func48 (by kernel_rfl) (by kernel_rfl) ?_
  show Calls prog 48 #[.agg (cscells x).toArray, .agg (cscells y).toArray] w (Ret K)
  refine c48 ?_
  unfold B48
  refine box_sl h fun ab w h => ?_
  have h : sat E w (pts ab (.cells (cscells x).toArray 53 (0, 0)) * H) := h
  refine box_sl h fun bb w h => ?_
  have h : sat E w (pts bb (.cells (cscells y).toArray 53 (0, 0)) * (pts ab (.cells (cscells x).toArray 53 (0, 0)) * H)) := h
  try simp only [↓o_nil, ↓o_field, ↓o_add, ↓o_sub, ↓o_mul, ↓o_lss, ↓o_leq, ↓o_gtr, ↓o_geq, ↓o_not, ↓o_pick, ↓o_eqInt, ↓o_neInt, ↓o_eqBool, ↓o_neBool, ↓o_eqPtr, ↓o_nePtr, ↓o_eqPtr', ↓o_eqSl, ↓o_neSl, ↓o_eqStr, ↓o_neStr, ↓o_len, ↓o_lenS, ↓o_min, ↓o_max, ↓o_extract, ↓o_convInt, ↓cd_true, ↓cd_false, ↓gate_tt, ↓gate_ff, ↓gate_tf, ↓gate_ft, ↓gate_undef, ↓o_bind, ↓stay_v, ↓pop_cons, ↓fin_nil, Option.isNone_none, Option.isNone_some, Bool.not_true, Bool.not_false, Nat.zero_add, decide_true, decide_false, if_true, if_false, Bool.false_eq_true, ↓reduceIte]
  refine ld_in (b := ab) (v := tv x.k.c) h rfl ?_
  refine ld_in (b := bb) (v := tv y.k.c) h rfl ?_
  exact Compare_spec h fun z w h => k z w h.drop.drop
theorem Ins_spec {v : Value} {l : List CS} (hl : l.length ≤ 12) (h : sat E w (osl 53 4 v l.length (l.flatMap cscells) * R))
    (k : ∀ (l' : List CS) w', l'.length = l.length → sat E w' (osl 53 4 v l'.length (l'.flatMap cscells) * R) → K (.tuple #[]) w') : Calls prog 78 #[v, .int .i64 0, .int .i64 (l.length : Int), .func (.func 48) #[] #[]] w (Ret K) := by
  refine c78 ?_
  unfold B78
  rw [o_add, i64_of (by omega) (by omega)]
  obtain ⟨ua, uc, rfl, huc, _, hpos⟩ := osl_shape h
  refine lp_nat (fun r σ w => ∃ (i : Nat) (l' : List CS), σ = [.int .i64 (i : Int)] ∧ r = l.length - i ∧ 1 ≤ i ∧ l'.length = l.length ∧ sat E w (osl 53 4 (.slice ua l.length uc) l.length (l'.flatMap cscells) * R)) (l.length - 1)
    ⟨1, l, rfl, rfl, by omega, rfl, h⟩ ?_
  clear h
  rintro r σ w again ⟨i, l', rfl, rfl, hi1, hl', h⟩ hag
  rw [pop_cons, fin_nil, o_lss]
  refine cd_dec (fun hlt => ?_) (fun hge => ?_)
  · obtain ⟨ub, rfl⟩ := hpos (by omega)
    have ix : ∀ (q : Nat) {w : World} {K : Value → World → Prop}, q < l.length → pvv prog (Instr.indexAt 106 (.slice (some ⟨ub, 0, none⟩) l.length uc) (.int .i64 (q : Int))) w K = K (.pointer (some ⟨ub, 0 + q * 4, none⟩)) w := fun q {w K} hq => by
      rw [o_index (by omega) (by omega), Int.toNat_natCast]
    refine lp_nat (fun r σ w => ∃ (j : Nat) (l' : List CS), σ = [.int .i64 (j : Int)] ∧ r = j ∧ j ≤ i ∧ l'.length = l.length ∧ sat E w (osl 53 4 (.slice (some ⟨ub, 0, none⟩) l.length uc) l.length (l'.flatMap cscells) * R)) i
      ⟨i, l', rfl, rfl, by omega, hl', h⟩ ?_
    clear h hl'
    rintro j σ w again2 ⟨_, l', rfl, rfl, hj, hl', h⟩ hag2
    rw [pop_cons, fin_nil]
    refine dr_sl h fun w h _ => ?_
    rw [o_gtr]
    have hout : ∀ {w : World} {l' : List CS}, l'.length = l.length → sat E w (osl 53 4 (.slice (some ⟨ub, 0, none⟩) l.length uc) l.length (l'.flatMap cscells) * R) → again [.int .i64 (IntKind.i64.wrap ((i : Int) + 1))] w := fun {w l'} hl' h => by
      rw [i64_of (by omega) (by omega)]
      exact hag (l.length - (i + 1)) _ _ (by omega) ⟨i + 1, l', rfl, rfl, by omega, hl', h⟩
    cases j with
    | zero =>
      simp only [show decide ((0 : Int) < ((0 : Nat) : Int)) = false from rfl, ↓o_nil, ↓o_field, ↓o_add, ↓o_sub, ↓o_mul, ↓o_lss, ↓o_leq, ↓o_gtr, ↓o_geq, ↓o_not, ↓o_pick, ↓o_eqInt, ↓o_neInt, ↓o_eqBool, ↓o_neBool, ↓o_eqPtr, ↓o_nePtr, ↓o_eqPtr', ↓o_eqSl, ↓o_neSl, ↓o_eqStr, ↓o_neStr, ↓o_len, ↓o_lenS, ↓o_min, ↓o_max, ↓o_extract, ↓o_convInt, ↓cd_true, ↓cd_false, ↓gate_tt, ↓gate_ff, ↓gate_tf, ↓gate_ft, ↓gate_undef, ↓o_bind, ↓stay_v, ↓pop_cons, ↓fin_nil, Option.isNone_none, Option.isNone_some, Bool.not_true, Bool.not_false, Nat.zero_add, decide_true, decide_false, if_true, if_false, Bool.false_eq_true, ↓reduceIte]
      exact hout hl' h
    | succ j =>
      have e1 : IntKind.i64.wrap (((j + 1 : Nat) : Int) - 1) = (j : Int) := by rw [i64_of (by omega) (by omega)]; omega
      simp only [decide_eq_true (show (0 : Int) < ((j + 1 : Nat) : Int) by omega), ↓o_nil, ↓o_field, ↓o_add, ↓o_sub, ↓o_mul, ↓o_lss, ↓o_leq, ↓o_gtr, ↓o_geq, ↓o_not, ↓o_pick, ↓o_eqInt, ↓o_neInt, ↓o_eqBool, ↓o_neBool, ↓o_eqPtr, ↓o_nePtr, ↓o_eqPtr', ↓o_eqSl, ↓o_neSl, ↓o_eqStr, ↓o_neStr, ↓o_len, ↓o_lenS, ↓o_min, ↓o_max, ↓o_extract, ↓o_convInt, ↓cd_true, ↓cd_false, ↓gate_tt, ↓gate_ff, ↓gate_tf, ↓gate_ft, ↓gate_undef, ↓o_bind, ↓stay_v, ↓pop_cons, ↓fin_nil, Option.isNone_none, Option.isNone_some, Bool.not_true, Bool.not_false, Nat.zero_add, decide_true, decide_false, if_true, if_false, Bool.false_eq_true, ↓reduceIte]
      have hx : l'[j + 1]? = some l'[j + 1] := List.getElem?_eq_getElem (by omega)
      have hy : l'[j]? = some l'[j] := List.getElem?_eq_getElem (by omega)
      generalize l'[j + 1] = x at hx
      generalize l'[j] = y at hy
      simp only [e1, ix (j + 1) (by omega), ix j (by omega), ↓o_nil, ↓o_field, ↓o_add, ↓o_sub, ↓o_mul, ↓o_lss, ↓o_leq, ↓o_gtr, ↓o_geq, ↓o_not, ↓o_pick, ↓o_eqInt, ↓o_neInt, ↓o_eqBool, ↓o_neBool, ↓o_eqPtr, ↓o_nePtr, ↓o_eqPtr', ↓o_eqSl, ↓o_neSl, ↓o_eqStr, ↓o_neStr, ↓o_len, ↓o_lenS, ↓o_min, ↓o_max, ↓o_extract, ↓o_convInt, ↓cd_true, ↓cd_false, ↓gate_tt, ↓gate_ff, ↓gate_tf, ↓gate_ft, ↓gate_undef, ↓o_bind, ↓stay_v, ↓pop_cons, ↓fin_nil, Option.isNone_none, Option.isNone_some, Bool.not_true, Bool.not_false, Nat.zero_add, decide_true, decide_false, if_true, if_false, Bool.false_eq_true, ↓reduceIte]
      have hr : ∀ {w : World} {l' : List CS}, Rds (osl 53 4 (.slice (some ⟨ub, 0, none⟩) l.length uc) l.length (l'.flatMap cscells) * R) (.slice (some ⟨ub, 0, none⟩) l.length uc) l.length (l'.flatMap cscells) := fun {w l'} => Rds.osl.left
      refine ld_el h (hr (w := w)) ((j + 1) * 4) (by omega) (cscells x) rfl (fm_at (k := 4) (fun _ => rfl) hx) ?_
      refine ld_el h (hr (w := w)) (j * 4) (by omega) (cscells y) rfl (fm_at (k := 4) (fun _ => rfl) hy) ?_
      refine CmpF_spec h fun z w h => ?_
      try simp only [↓o_nil, ↓o_field, ↓o_add, ↓o_sub, ↓o_mul, ↓o_lss, ↓o_leq, ↓o_gtr, ↓o_geq, ↓o_not, ↓o_pick, ↓o_eqInt, ↓o_neInt, ↓o_eqBool, ↓o_neBool, ↓o_eqPtr, ↓o_nePtr, ↓o_eqPtr', ↓o_eqSl, ↓o_neSl, ↓o_eqStr, ↓o_neStr, ↓o_len, ↓o_lenS, ↓o_min, ↓o_max, ↓o_extract, ↓o_convInt, ↓cd_true, ↓cd_false, ↓gate_tt, ↓gate_ff, ↓gate_tf, ↓gate_ft, ↓gate_undef, ↓o_bind, ↓stay_v, ↓pop_cons, ↓fin_nil, Option.isNone_none, Option.isNone_some, Bool.not_true, Bool.not_false, Nat.zero_add, decide_true, decide_false, if_true, if_false, Bool.false_eq_true, ↓reduceIte]
      refine cd_dec (fun hz => ?_) (fun hz => ?_)
      · refine dr_sl h fun w h _ => ?_
        try simp only [e1, ix (j + 1) (by omega), ix j (by omega), ↓o_nil, ↓o_field, ↓o_add, ↓o_sub, ↓o_mul, ↓o_lss, ↓o_leq, ↓o_gtr, ↓o_geq, ↓o_not, ↓o_pick, ↓o_eqInt, ↓o_neInt, ↓o_eqBool, ↓o_neBool, ↓o_eqPtr, ↓o_nePtr, ↓o_eqPtr', ↓o_eqSl, ↓o_neSl, ↓o_eqStr, ↓o_neStr, ↓o_len, ↓o_lenS, ↓o_min, ↓o_max, ↓o_extract, ↓o_convInt, ↓cd_true, ↓cd_false, ↓gate_tt, ↓gate_ff, ↓gate_tf, ↓gate_ft, ↓gate_undef, ↓o_bind, ↓stay_v, ↓pop_cons, ↓fin_nil, Option.isNone_none, Option.isNone_some, Bool.not_true, Bool.not_false, Nat.zero_add, decide_true, decide_false, if_true, if_false, Bool.false_eq_true, ↓reduceIte]
        refine ld_el h (hr (w := w)) (j * 4) (by omega) (cscells y) rfl (fm_at (k := 4) (fun _ => rfl) hy) ?_
        refine ld_el h (hr (w := w)) ((j + 1) * 4) (by omega) (cscells x) rfl (fm_at (k := 4) (fun _ => rfl) hx) ?_
        try simp only [e1, ix (j + 1) (by omega), ix j (by omega), ↓o_nil, ↓o_field, ↓o_add, ↓o_sub, ↓o_mul, ↓o_lss, ↓o_leq, ↓o_gtr, ↓o_geq, ↓o_not, ↓o_pick, ↓o_eqInt, ↓o_neInt, ↓o_eqBool, ↓o_neBool, ↓o_eqPtr, ↓o_nePtr, ↓o_eqPtr', ↓o_eqSl, ↓o_neSl, ↓o_eqStr, ↓o_neStr, ↓o_len, ↓o_lenS, ↓o_min, ↓o_max, ↓o_extract, ↓o_convInt, ↓cd_true, ↓cd_false, ↓gate_tt, ↓gate_ff, ↓gate_tf, ↓gate_ft, ↓gate_undef, ↓o_bind, ↓stay_v, ↓pop_cons, ↓fin_nil, Option.isNone_none, Option.isNone_some, Bool.not_true, Bool.not_false, Nat.zero_add, decide_true, decide_false, if_true, if_false, Bool.false_eq_true, ↓reduceIte]
        refine put_el (i := j + 1) h hl' (by omega) (by omega) y fun w h => ?_
        refine put_el (i := j) h (by rw [List.length_set]; exact hl') (by omega) (by omega) x fun w h => ?_
        try simp only [e1, ↓o_nil, ↓o_field, ↓o_add, ↓o_sub, ↓o_mul, ↓o_lss, ↓o_leq, ↓o_gtr, ↓o_geq, ↓o_not, ↓o_pick, ↓o_eqInt, ↓o_neInt, ↓o_eqBool, ↓o_neBool, ↓o_eqPtr, ↓o_nePtr, ↓o_eqPtr', ↓o_eqSl, ↓o_neSl, ↓o_eqStr, ↓o_neStr, ↓o_len, ↓o_lenS, ↓o_min, ↓o_max, ↓o_extract, ↓o_convInt, ↓cd_true, ↓cd_false, ↓gate_tt, ↓gate_ff, ↓gate_tf, ↓gate_ft, ↓gate_undef, ↓o_bind, ↓stay_v, ↓pop_cons, ↓fin_nil, Option.isNone_none, Option.isNone_some, Bool.not_true, Bool.not_false, Nat.zero_add, decide_true, decide_false, if_true, if_false, Bool.false_eq_true, ↓reduceIte]
        exact hag2 j _ _ (by omega) ⟨j, _, rfl, rfl, by omega, by rw [List.length_set, List.length_set]; exact hl', h⟩
      · exact hout hl' h
  · have h : sat E w (osl 53 4 (.slice ua l.length uc) l'.length (l'.flatMap cscells) * R) := by rw [hl']; exact h
    exact k l' w hl' h
def lenTab : List UInt8 := [0, 1, 2, 2, 3, 3, 3, 3, 4, 4, 4, 4, 4, 4, 4, 4, 5, 5, 5, 5, 5, 5, 5, 5, 5, 5, 5, 5, 5, 5, 5, 5, 6, 6, 6, 6, 6, 6, 6, 6, 6, 6, 6, 6, 6, 6, 6, 6, 6, 6, 6, 6, 6, 6, 6, 6, 6, 6, 6, 6, 6, 6, 6, 6, 7, 7, 7, 7, 7, 7, 7, 7, 7, 7, 7, 7, 7, 7, 7, 7, 7, 7, 7, 7, 7, 7, 7, 7, 7, 7, 7, 7, 7, 7, 7, 7, 7, 7, 7, 7, 7, 7, 7, 7, 7, 7, 7, 7, 7, 7, 7, 7, 7, 7, 7, 7, 7, 7, 7, 7, 7, 7, 7, 7, 7, 7, 7, 7, 8, 8, 8, 8, 8, 8, 8, 8, 8, 8, 8, 8, 8, 8, 8, 8, 8, 8, 8, 8, 8, 8, 8, 8, 8, 8, 8, 8, 8, 8, 8, 8, 8, 8, 8, 8, 8, 8, 8, 8, 8, 8, 8, 8, 8, 8, 8, 8, 8, 8, 8, 8, 8, 8, 8, 8, 8, 8, 8, 8, 8, 8, 8, 8, 8, 8, 8, 8, 8, 8, 8, 8, 8, 8, 8, 8, 8, 8, 8, 8, 8, 8, 8, 8, 8, 8, 8, 8, 8, 8, 8, 8, 8, 8, 8, 8, 8, 8, 8, 8, 8, 8, 8, 8, 8, 8, 8, 8, 8, 8, 8, 8, 8, 8, 8, 8, 8, 8, 8, 8, 8, 8, 8, 8, 8, 8, 8, 8]
theorem Len_spec {n : Nat} (hn : n ≤ 255) (h : sat E w H) (k : ∀ (z : Int) w', sat E w' H → K (.int .i64 z) w') : Calls prog 65 #[.int .u64 (n : Int)] w (Ret K) := by
  refine c65 ?_
  unfold B65
  rw [cd_false]
  refine c87 ?_
  unfold B87
  unfold jn
  simp only [decide_eq_false (show ¬ (4294967296 : Int) ≤ (n : Int) by omega), decide_eq_false (show ¬ (65536 : Int) ≤ (n : Int) by omega), decide_eq_false (show ¬ (256 : Int) ≤ (n : Int) by omega), ↓o_nil, ↓o_field, ↓o_add, ↓o_sub, ↓o_mul, ↓o_lss, ↓o_leq, ↓o_gtr, ↓o_geq, ↓o_not, ↓o_pick, ↓o_eqInt, ↓o_neInt, ↓o_eqBool, ↓o_neBool, ↓o_eqPtr, ↓o_nePtr, ↓o_eqPtr', ↓o_eqSl, ↓o_neSl, ↓o_eqStr, ↓o_neStr, ↓o_len, ↓o_lenS, ↓o_min, ↓o_max, ↓o_extract, ↓o_convInt, ↓cd_true, ↓cd_false, ↓gate_tt, ↓gate_ff, ↓gate_tf, ↓gate_ft, ↓gate_undef, ↓o_bind, ↓stay_v, ↓pop_cons, ↓fin_nil, Option.isNone_none, Option.isNone_some, Bool.not_true, Bool.not_false, Nat.zero_add, decide_true, decide_false, if_true, if_false, Bool.false_eq_true, ↓reduceIte]
  rw [show IntKind.u8.wrap (n : Int) = (n : Int) by rw [IntKind.wrap_u8]; omega]
  refine (o_indexT (l := lenTab) (k := .u8) (x := (n : Int)) (by omega) (by show n < 256; omega)).mpr ?_
  unfold bv
  simp only [↓o_nil, ↓o_field, ↓o_add, ↓o_sub, ↓o_mul, ↓o_lss, ↓o_leq, ↓o_gtr, ↓o_geq, ↓o_not, ↓o_pick, ↓o_eqInt, ↓o_neInt, ↓o_eqBool, ↓o_neBool, ↓o_eqPtr, ↓o_nePtr, ↓o_eqPtr', ↓o_eqSl, ↓o_neSl, ↓o_eqStr, ↓o_neStr, ↓o_len, ↓o_lenS, ↓o_min, ↓o_max, ↓o_extract, ↓o_convInt, ↓cd_true, ↓cd_false, ↓gate_tt, ↓gate_ff, ↓gate_tf, ↓gate_ft, ↓gate_undef, ↓o_bind, ↓stay_v, ↓pop_cons, ↓fin_nil, Option.isNone_none, Option.isNone_some, Bool.not_true, Bool.not_false, Nat.zero_add, decide_true, decide_false, if_true, if_false, Bool.false_eq_true, ↓reduceIte]
  exact k _ w h
theorem SortF_spec {v : Value} {l : List CS} (hl : l.length ≤ 12) (h : sat E w (osl 53 4 v l.length (l.flatMap cscells) * R))
    (k : ∀ (l' : List CS) w', l'.length = l.length → sat E w' (osl 53 4 v l'.length (l'.flatMap cscells) * R) → K (.tuple #[]) w') : Calls prog 47 #[v, .func (.func 48) #[] #[]] w (Ret K) := by
  obtain ⟨ua, uc, rfl, huc, _, _⟩ := osl_shape h
  refine c47 ?_
  unfold B47
  rw [o_len, o_convInt, show IntKind.u64.wrap (l.length : Int) = (l.length : Int) by rw [IntKind.wrap_u64]; omega]
  refine Len_spec (by omega) h fun z w h => ?_
  refine c64 ?_
  unfold B64
  refine lp_nat (fun r σ w => ∃ (z : Int), σ = [.int .i64 0, .int .i64 (l.length : Int), .int .i64 z, .bool true, .bool true] ∧ r = 0 ∧ sat E w (osl 53 4 (.slice ua l.length uc) l.length (l.flatMap cscells) * R)) 0 ⟨z, rfl, rfl, h⟩ ?_
  clear h
  rintro r σ w again ⟨z, rfl, rfl, h⟩ hag
  rw [pop_cons, pop_cons, pop_cons, pop_cons, pop_cons, fin_nil, o_sub, i64_of (by omega) (by omega), o_leq, decide_eq_true (by omega), cd_true]
  exact Ins_spec hl h k
end Go.Proofs.YtmnaalpjhkkglaaDoor

/-
  A user's consents; whether a tenant has room for a client; letting a client's consents go.
-/
set_option linter.all false
set_option maxRecDepth 100000
namespace Go.Proofs.YtmnaalpjhkkglaaDoor
open Go Hold
variable {E : World0} {w : World} {H R : HP} {K : Value → World → Prop}
theorem filter_erase {α : Type} (p : α → Bool) : ∀ {l : List α} {j : Nat} {x : α}, l[j]? = some x → (l.filter p).length = ((l.eraseIdx j).filter p).length + (if p x then 1 else 0)
  | [], j, x, h => by simp at h
  | y :: l, 0, x, h => by
    simp at h; subst h
    rw [List.eraseIdx_cons_zero, List.filter_cons]
    split <;> simp
  | y :: l, j + 1, x, h => by
    simp only [List.getElem?_cons_succ] at h
    have := filter_erase p h
    rw [List.eraseIdx_cons_succ, List.filter_cons, List.filter_cons]
    split
    · simp only [List.length_cons, this]; omega
    · exact this
section
variable {p a b : Nat} {cl : List (K2 × Value)} {co : List (K3 × Value)}
theorem Consents_spec {t u : List UInt8} (hv : ∀ x ∈ co, ∃ s : UInt8, x.2 = bv s) (hf : (co.filter fun x => ofU t u x.1).length ≤ 4) (h : sat E w (gI p a b cl co R))
    (k : ∀ sa sc w', sat E w' (gI p a b cl co R) → K (.slice sa (co.filter fun x => ofU t u x.1).length sc) w') : Calls prog 36 #[.pointer (some ⟨p, 0, none⟩), .agg (ocl t u).toArray] w (Ret K) := by
  refine c36 ?_
  unfold B36
  refine box_sl h fun ob w h => ?_
  have h : sat E w (pts ob (.cells (ocl t u).toArray 46 (0, 0)) * gI p a b cl co R) := h
  simp only [↓o_nil, ↓o_field, ↓o_add, ↓o_sub, ↓o_mul, ↓o_lss, ↓o_leq, ↓o_gtr, ↓o_geq, ↓o_not, ↓o_pick, ↓o_eqInt, ↓o_neInt, ↓o_eqBool, ↓o_neBool, ↓o_eqPtr, ↓o_nePtr, ↓o_eqPtr', ↓o_eqSl, ↓o_neSl, ↓o_eqStr, ↓o_neStr, ↓o_len, ↓o_lenS, ↓o_min, ↓o_max, ↓o_extract, ↓o_convInt, ↓cd_true, ↓cd_false, ↓gate_tt, ↓gate_ff, ↓gate_tf, ↓gate_ft, ↓gate_undef, ↓o_bind, ↓stay_v, ↓pop_cons, ↓fin_nil, Option.isNone_none, Option.isNone_some, Bool.not_true, Bool.not_false, Nat.zero_add, decide_true, decide_false, if_true, if_false, Bool.false_eq_true, ↓reduceIte]
  refine ld_in (b := p) (v := .map (some b)) h rfl ?_
  refine Mk.range_sl (κ := K3) (b := b) (l := co) h fun i w h => ?_
  have h : sat E w (osl 53 4 (.slice none 0 0) 0 (([] : List CS).flatMap cscells) * (Mk.omit_ i b co co * (pts ob (.cells (ocl t u).toArray 46 (0, 0)) * (pts p (.cells (gcells a b).toArray 94 (0, 0)) * (Mk.omap a cl * R))))) := osl_nil h 53 4
  refine lp_nat (fun r σ w => ∃ (rest : List (K3 × Value)) (out : Value) (l : List CS), σ = [out] ∧ r = rest.length ∧ (∀ x ∈ rest, x ∈ co) ∧ l.length + (rest.filter fun x => ofU t u x.1).length = (co.filter fun x => ofU t u x.1).length ∧
      sat E w (osl 53 4 out l.length (l.flatMap cscells) * (Mk.omit_ i b co rest * (pts ob (.cells (ocl t u).toArray 46 (0, 0)) * (pts p (.cells (gcells a b).toArray 94 (0, 0)) * (Mk.omap a cl * R)))))) co.length
    ⟨co, _, [], rfl, rfl, fun x hx => hx, by simp, h⟩ ?_
  clear h
  rintro r σ w again ⟨rest, out, l, rfl, rfl, hin, hcnt, h⟩ hag
  rw [pop_cons, fin_nil]
  refine Mk.next_sl (i := i) (b := b) (l := co) (rest := rest) h (fun h0 => ?_) (fun j x w hj hen h => ?_)
  · subst h0
    rw [o_extract, cd_false]
    have hl : l.length = (co.filter fun x => ofU t u x.1).length := by simpa using hcnt
    refine SortF_spec (by omega) h fun l' w hl' h => ?_
    obtain ⟨ua, uc, rfl, huc, _, _⟩ := osl_shape h
    have h := Mk.omit_close (h.perm (star_left_comm _ _ _))
    rw [hl', hl]
    exact k ua uc w (h.perm (show _ = osl 53 4 (.slice ua l'.length uc) l'.length (l'.flatMap cscells) * (pts ob (.cells (ocl t u).toArray 46 (0, 0)) * gI p a b cl co R) by (try unfold gI); ac_rfl)).drop.drop
  · rw [o_extract, cd_true]
    refine efv_of hen ?_
    rw [o_extract, o_extract]
    have hxm : x ∈ co := hin x (List.mem_of_getElem? hj)
    obtain ⟨s, hs⟩ := hv x hxm
    obtain ⟨⟨xt, xu, xc⟩, xv⟩ := x
    simp only at hs
    subst hs
    have hfe := filter_erase (fun x : K3 × Value => ofU t u x.1) hj
    have hlt := (List.getElem?_eq_some_iff.1 hj).1
    have hin2 : ∀ x ∈ rest.eraseIdx j, x ∈ co := fun x hx => hin x ((List.eraseIdx_sublist _ _).subset hx)
    have hel : (rest.eraseIdx j).length < rest.length := by rw [List.length_eraseIdx, if_pos hlt]; omega
    refine us_in h (xs := k3cells ⟨xt, xu, xc⟩) rfl (k3_one _) fun ub w h => ?_
    have h := h.perm (show _ = pts ub (.cells (k3cells ⟨xt, xu, xc⟩).toArray 104 (0, 0)) * (osl 53 4 out l.length (l.flatMap cscells) * (Mk.omit_ i b co (rest.eraseIdx j) * (pts ob (.cells (ocl t u).toArray 46 (0, 0)) * (pts p (.cells (gcells a b).toArray 94 (0, 0)) * (Mk.omap a cl * R))))) by (try unfold gI); ac_rfl)
    try simp only [↓o_nil, ↓o_field, ↓o_add, ↓o_sub, ↓o_mul, ↓o_lss, ↓o_leq, ↓o_gtr, ↓o_geq, ↓o_not, ↓o_pick, ↓o_eqInt, ↓o_neInt, ↓o_eqBool, ↓o_neBool, ↓o_eqPtr, ↓o_nePtr, ↓o_eqPtr', ↓o_eqSl, ↓o_neSl, ↓o_eqStr, ↓o_neStr, ↓o_len, ↓o_lenS, ↓o_min, ↓o_max, ↓o_extract, ↓o_convInt, ↓cd_true, ↓cd_false, ↓gate_tt, ↓gate_ff, ↓gate_tf, ↓gate_ft, ↓gate_undef, ↓o_bind, ↓stay_v, ↓pop_cons, ↓fin_nil, Option.isNone_none, Option.isNone_some, Bool.not_true, Bool.not_false, Nat.zero_add, decide_true, decide_false, if_true, if_false, Bool.false_eq_true, ↓reduceIte]
    refine ld_part (b := ub) h (ocl xt xu) rfl rfl ?_
    refine ld_agg (b := ob) h rfl ?_
    refine Eq.mpr (eq46 (a := xt) (b := xu) (a' := t) (b' := u)) ?_
    have hoe : (decide (xt = t) && decide (xu = u)) = ofU t u ⟨xt, xu, xc⟩ := rfl
    rw [hoe]
    refine cd_split (fun hp => ?_) (fun hp => ?_)
    · refine ld_agg (b := ob) h rfl ?_
      try simp only [↓o_nil, ↓o_field, ↓o_add, ↓o_sub, ↓o_mul, ↓o_lss, ↓o_leq, ↓o_gtr, ↓o_geq, ↓o_not, ↓o_pick, ↓o_eqInt, ↓o_neInt, ↓o_eqBool, ↓o_neBool, ↓o_eqPtr, ↓o_nePtr, ↓o_eqPtr', ↓o_eqSl, ↓o_neSl, ↓o_eqStr, ↓o_neStr, ↓o_len, ↓o_lenS, ↓o_min, ↓o_max, ↓o_extract, ↓o_convInt, ↓cd_true, ↓cd_false, ↓gate_tt, ↓gate_ff, ↓gate_tf, ↓gate_ft, ↓gate_undef, ↓o_bind, ↓stay_v, ↓pop_cons, ↓fin_nil, Option.isNone_none, Option.isNone_some, Bool.not_true, Bool.not_false, Nat.zero_add, decide_true, decide_false, if_true, if_false, Bool.false_eq_true, ↓reduceIte]
      refine ld_in (b := ub) (v := tv xc) h rfl ?_
      refine pvv_of (v := .agg (cscells ⟨⟨t, u, xc⟩, s⟩).toArray) (fun w => by kernel_rfl) ?_
      refine buildSlice_sl (e := 53) (cs := (cscells ⟨⟨t, u, xc⟩, s⟩).toArray) h (fun w => by kernel_rfl) fun b5 w h => ?_
      refine append_sl (v := out) h (cscells ⟨⟨t, u, xc⟩, s⟩) (k' := 1) rfl (.inr ⟨b5, 0, _, _, _, rfl, h.pts_get, fun j v hj => by simpa using hj⟩) (cs_one _) (by omega) (by omega) fun v' w h => ?_
      refine hag (rest.eraseIdx j).length _ _ hel ⟨rest.eraseIdx j, v', l ++ [⟨⟨t, u, xc⟩, s⟩], rfl, rfl, hin2, ?_, ?_⟩
      · simp only [hp, if_true] at hfe
        rw [List.length_append, List.length_singleton]
        omega
      · have h := (h.lose b5).lose ub
        have e9 : l.flatMap cscells ++ cscells ⟨⟨t, u, xc⟩, s⟩ = (l ++ [(⟨⟨t, u, xc⟩, s⟩ : CS)]).flatMap cscells := by simp
        rw [e9] at h
        rw [List.length_append, List.length_singleton]
        exact h
    · refine hag (rest.eraseIdx j).length _ _ hel ⟨rest.eraseIdx j, out, l, rfl, rfl, hin2, ?_, h.drop⟩
      simp only [hp, Bool.false_eq_true, if_false] at hfe
      omega
theorem full_spec {t : List UInt8} (hl : cl.length ≤ 1000) (h : sat E w (gI p a b cl co R)) (k : ∀ (q : Bool) w', sat E w' (gI p a b cl co R) → K (.bool q) w') : Calls prog 34 #[.pointer (some ⟨p, 0, none⟩), tv t] w (Ret K) := by
  refine c34 ?_
  unfold B34
  refine Mk.make_map (List UInt8) h fun ob w h => ?_
  simp only [↓o_nil, ↓o_field, ↓o_add, ↓o_sub, ↓o_mul, ↓o_lss, ↓o_leq, ↓o_gtr, ↓o_geq, ↓o_not, ↓o_pick, ↓o_eqInt, ↓o_neInt, ↓o_eqBool, ↓o_neBool, ↓o_eqPtr, ↓o_nePtr, ↓o_eqPtr', ↓o_eqSl, ↓o_neSl, ↓o_eqStr, ↓o_neStr, ↓o_len, ↓o_lenS, ↓o_min, ↓o_max, ↓o_extract, ↓o_convInt, ↓cd_true, ↓cd_false, ↓gate_tt, ↓gate_ff, ↓gate_tf, ↓gate_ft, ↓gate_undef, ↓o_bind, ↓stay_v, ↓pop_cons, ↓fin_nil, Option.isNone_none, Option.isNone_some, Bool.not_true, Bool.not_false, Nat.zero_add, decide_true, decide_false, if_true, if_false, Bool.false_eq_true, ↓reduceIte]
  refine ld_in (b := p) (v := .map (some a)) h rfl ?_
  refine Mk.range_sl (κ := K2) (b := a) (l := cl) h fun i w h => ?_
  have h : sat E w (Mk.omap ob ([] : List (List UInt8 × Value)) * (Mk.omit_ i a cl cl * (pts p (.cells (gcells a b).toArray 94 (0, 0)) * (Mk.omap b co * R)))) := h.perm (by (try unfold gI); ac_rfl)
  refine lp_nat (fun r σ w => ∃ (rest : List (K2 × Value)) (of : List (List UInt8 × Value)), σ = [] ∧ r = rest.length ∧ (∀ x ∈ of, ∃ z : Int, x.2 = .int .i64 z) ∧
      sat E w (Mk.omap ob of * (Mk.omit_ i a cl rest * (pts p (.cells (gcells a b).toArray 94 (0, 0)) * (Mk.omap b co * R))))) cl.length
    ⟨cl, [], rfl, rfl, by simp, h⟩ ?_
  clear h
  rintro r σ w again ⟨rest, of, rfl, rfl, hof, h⟩ hag
  have hget : ∀ q : List UInt8, ∃ z : Int, (Mk.lookM of q).getD (.int .i64 0) = .int .i64 z := fun q => by
    cases hx : Mk.lookM of q with
    | none => exact ⟨0, rfl⟩
    | some v =>
      obtain ⟨z, hz⟩ := hof _ (Mk.lookM_mem hx)
      exact ⟨z, hz⟩
  rw [fin_nil]
  refine Mk.next_sl (i := i) (b := a) (l := cl) (rest := rest) h (fun h0 => ?_) (fun j x w hj hen h => ?_)
  · rw [o_extract, cd_false]
    obtain ⟨z, hz⟩ := hget t
    have hend : ∀ {w}, sat E w (Mk.omap ob of * (Mk.omit_ i a cl rest * (pts p (.cells (gcells a b).toArray 94 (0, 0)) * (Mk.omap b co * R)))) → sat E w (gI p a b cl co R) := fun h => by
      have h := Mk.omit_close (h.perm (star_left_comm _ _ _))
      exact (h.perm (show _ = Mk.omap ob of * gI p a b cl co R by (try unfold gI); ac_rfl)).drop
    refine Mk.look1_ld (b := ob) (l := of) (k := t) h ?_
    rw [hz, o_geq]
    by_cases hz4 : (4 : Int) ≤ z
    · simp only [decide_eq_true hz4, ↓o_nil, ↓o_field, ↓o_add, ↓o_sub, ↓o_mul, ↓o_lss, ↓o_leq, ↓o_gtr, ↓o_geq, ↓o_not, ↓o_pick, ↓o_eqInt, ↓o_neInt, ↓o_eqBool, ↓o_neBool, ↓o_eqPtr, ↓o_nePtr, ↓o_eqPtr', ↓o_eqSl, ↓o_neSl, ↓o_eqStr, ↓o_neStr, ↓o_len, ↓o_lenS, ↓o_min, ↓o_max, ↓o_extract, ↓o_convInt, ↓cd_true, ↓cd_false, ↓gate_tt, ↓gate_ff, ↓gate_tf, ↓gate_ft, ↓gate_undef, ↓o_bind, ↓stay_v, ↓pop_cons, ↓fin_nil, Option.isNone_none, Option.isNone_some, Bool.not_true, Bool.not_false, Nat.zero_add, decide_true, decide_false, if_true, if_false, Bool.false_eq_true, ↓reduceIte]
      exact k _ w (hend h)
    · simp only [decide_eq_false hz4, ↓o_nil, ↓o_field, ↓o_add, ↓o_sub, ↓o_mul, ↓o_lss, ↓o_leq, ↓o_gtr, ↓o_geq, ↓o_not, ↓o_pick, ↓o_eqInt, ↓o_neInt, ↓o_eqBool, ↓o_neBool, ↓o_eqPtr, ↓o_nePtr, ↓o_eqPtr', ↓o_eqSl, ↓o_neSl, ↓o_eqStr, ↓o_neStr, ↓o_len, ↓o_lenS, ↓o_min, ↓o_max, ↓o_extract, ↓o_convInt, ↓cd_true, ↓cd_false, ↓gate_tt, ↓gate_ff, ↓gate_tf, ↓gate_ft, ↓gate_undef, ↓o_bind, ↓stay_v, ↓pop_cons, ↓fin_nil, Option.isNone_none, Option.isNone_some, Bool.not_true, Bool.not_false, Nat.zero_add, decide_true, decide_false, if_true, if_false, Bool.false_eq_true, ↓reduceIte]
      refine Mk.look1_ld (b := ob) (l := of) (k := t) h ?_
      rw [hz]
      simp only [↓o_nil, ↓o_field, ↓o_add, ↓o_sub, ↓o_mul, ↓o_lss, ↓o_leq, ↓o_gtr, ↓o_geq, ↓o_not, ↓o_pick, ↓o_eqInt, ↓o_neInt, ↓o_eqBool, ↓o_neBool, ↓o_eqPtr, ↓o_nePtr, ↓o_eqPtr', ↓o_eqSl, ↓o_neSl, ↓o_eqStr, ↓o_neStr, ↓o_len, ↓o_lenS, ↓o_min, ↓o_max, ↓o_extract, ↓o_convInt, ↓cd_true, ↓cd_false, ↓gate_tt, ↓gate_ff, ↓gate_tf, ↓gate_ft, ↓gate_undef, ↓o_bind, ↓stay_v, ↓pop_cons, ↓fin_nil, Option.isNone_none, Option.isNone_some, Bool.not_true, Bool.not_false, Nat.zero_add, decide_true, decide_false, if_true, if_false, Bool.false_eq_true, ↓reduceIte]
      by_cases hz0 : z = 0
      · simp only [decide_eq_true hz0, ↓o_nil, ↓o_field, ↓o_add, ↓o_sub, ↓o_mul, ↓o_lss, ↓o_leq, ↓o_gtr, ↓o_geq, ↓o_not, ↓o_pick, ↓o_eqInt, ↓o_neInt, ↓o_eqBool, ↓o_neBool, ↓o_eqPtr, ↓o_nePtr, ↓o_eqPtr', ↓o_eqSl, ↓o_neSl, ↓o_eqStr, ↓o_neStr, ↓o_len, ↓o_lenS, ↓o_min, ↓o_max, ↓o_extract, ↓o_convInt, ↓cd_true, ↓cd_false, ↓gate_tt, ↓gate_ff, ↓gate_tf, ↓gate_ft, ↓gate_undef, ↓o_bind, ↓stay_v, ↓pop_cons, ↓fin_nil, Option.isNone_none, Option.isNone_some, Bool.not_true, Bool.not_false, Nat.zero_add, decide_true, decide_false, if_true, if_false, Bool.false_eq_true, ↓reduceIte]
        refine Mk.len_ld (b := ob) (l := of) h ?_
        simp only [↓o_nil, ↓o_field, ↓o_add, ↓o_sub, ↓o_mul, ↓o_lss, ↓o_leq, ↓o_gtr, ↓o_geq, ↓o_not, ↓o_pick, ↓o_eqInt, ↓o_neInt, ↓o_eqBool, ↓o_neBool, ↓o_eqPtr, ↓o_nePtr, ↓o_eqPtr', ↓o_eqSl, ↓o_neSl, ↓o_eqStr, ↓o_neStr, ↓o_len, ↓o_lenS, ↓o_min, ↓o_max, ↓o_extract, ↓o_convInt, ↓cd_true, ↓cd_false, ↓gate_tt, ↓gate_ff, ↓gate_tf, ↓gate_ft, ↓gate_undef, ↓o_bind, ↓stay_v, ↓pop_cons, ↓fin_nil, Option.isNone_none, Option.isNone_some, Bool.not_true, Bool.not_false, Nat.zero_add, decide_true, decide_false, if_true, if_false, Bool.false_eq_true, ↓reduceIte]
        exact k _ w (hend h)
      · simp only [decide_eq_false hz0, ↓o_nil, ↓o_field, ↓o_add, ↓o_sub, ↓o_mul, ↓o_lss, ↓o_leq, ↓o_gtr, ↓o_geq, ↓o_not, ↓o_pick, ↓o_eqInt, ↓o_neInt, ↓o_eqBool, ↓o_neBool, ↓o_eqPtr, ↓o_nePtr, ↓o_eqPtr', ↓o_eqSl, ↓o_neSl, ↓o_eqStr, ↓o_neStr, ↓o_len, ↓o_lenS, ↓o_min, ↓o_max, ↓o_extract, ↓o_convInt, ↓cd_true, ↓cd_false, ↓gate_tt, ↓gate_ff, ↓gate_tf, ↓gate_ft, ↓gate_undef, ↓o_bind, ↓stay_v, ↓pop_cons, ↓fin_nil, Option.isNone_none, Option.isNone_some, Bool.not_true, Bool.not_false, Nat.zero_add, decide_true, decide_false, if_true, if_false, Bool.false_eq_true, ↓reduceIte]
        exact k _ w (hend h)
  · rw [o_extract, cd_true]
    refine efv_of hen ?_
    rw [o_extract]
    have hlt := (List.getElem?_eq_some_iff.1 hj).1
    have hel : (rest.eraseIdx j).length < rest.length := by rw [List.length_eraseIdx, if_pos hlt]; omega
    obtain ⟨⟨xt, xn⟩, xv⟩ := x
    refine nm_in h (xs := k2cells ⟨xt, xn⟩) rfl (k2_one _) fun nb w h => ?_
    try simp only [↓o_nil, ↓o_field, ↓o_add, ↓o_sub, ↓o_mul, ↓o_lss, ↓o_leq, ↓o_gtr, ↓o_geq, ↓o_not, ↓o_pick, ↓o_eqInt, ↓o_neInt, ↓o_eqBool, ↓o_neBool, ↓o_eqPtr, ↓o_nePtr, ↓o_eqPtr', ↓o_eqSl, ↓o_neSl, ↓o_eqStr, ↓o_neStr, ↓o_len, ↓o_lenS, ↓o_min, ↓o_max, ↓o_extract, ↓o_convInt, ↓cd_true, ↓cd_false, ↓gate_tt, ↓gate_ff, ↓gate_tf, ↓gate_ft, ↓gate_undef, ↓o_bind, ↓stay_v, ↓pop_cons, ↓fin_nil, Option.isNone_none, Option.isNone_some, Bool.not_true, Bool.not_false, Nat.zero_add, decide_true, decide_false, if_true, if_false, Bool.false_eq_true, ↓reduceIte]
    refine ld_in (b := nb) (v := tv xt) h rfl ?_
    obtain ⟨z, hz⟩ := hget xt
    refine Mk.look1_ld (b := ob) (l := of) (k := xt) h ?_
    rw [hz, o_add]
    refine Mk.update_sl (b := ob) (l := of) (k := xt) h fun w h => ?_
    refine hag (rest.eraseIdx j).length _ _ hel ⟨rest.eraseIdx j, Mk.putM of xt (.int .i64 (IntKind.i64.wrap (z + 1))), rfl, rfl, fun y hy => ?_, ?_⟩
    · rcases Mk.putM_mem hy with rfl | hy
      · exact ⟨_, rfl⟩
      · exact hof y hy
    · exact (h.perm (show _ = pts nb (.cells (k2cells ⟨xt, xn⟩).toArray 101 (0, 0)) * (Mk.omap ob (Mk.putM of xt (.int .i64 (IntKind.i64.wrap (z + 1)))) * (Mk.omit_ i a cl (rest.eraseIdx j) * (pts p (.cells (gcells a b).toArray 94 (0, 0)) * (Mk.omap b co * R)))) by (try unfold gI); ac_rfl)).drop
theorem DropF_spec {tb cb : Nat} {t n : List UInt8} {x : K3} {v : Value} (h : sat E w H) [Has H tb (.cells [tv t].toArray 9 (0, 0))] [Has H cb (.cells [tv n].toArray 9 (0, 0))]
    (k : ∀ w', sat E w' H → K (.bool (decide (x.t = t) && decide (x.c = n))) w') : ef prog (oCall (.func (.func 38) #[] #[.pointer (some ⟨tb, 0, none⟩), .pointer (some ⟨cb, 0, none⟩)]) #[.agg (k3cells x).toArray, v]) w K := by
  refine oCall_body Tryd.func38 (by kernel_rfl) (by kernel_rfl) ?_
  show Calls prog 38 #[.agg (k3cells x).toArray, v, .pointer (some ⟨tb, 0, none⟩), .pointer (some ⟨cb, 0, none⟩)] w (Ret K)
  refine c38 ?_
  unfold B38
  refine box_sl h fun ub w h => ?_
  have h : sat E w (pts ub (.cells (k3cells x).toArray 104 (0, 0)) * H) := h
  try simp only [↓o_nil, ↓o_field, ↓o_add, ↓o_sub, ↓o_mul, ↓o_lss, ↓o_leq, ↓o_gtr, ↓o_geq, ↓o_not, ↓o_pick, ↓o_eqInt, ↓o_neInt, ↓o_eqBool, ↓o_neBool, ↓o_eqPtr, ↓o_nePtr, ↓o_eqPtr', ↓o_eqSl, ↓o_neSl, ↓o_eqStr, ↓o_neStr, ↓o_len, ↓o_lenS, ↓o_min, ↓o_max, ↓o_extract, ↓o_convInt, ↓cd_true, ↓cd_false, ↓gate_tt, ↓gate_ff, ↓gate_tf, ↓gate_ft, ↓gate_undef, ↓o_bind, ↓stay_v, ↓pop_cons, ↓fin_nil, Option.isNone_none, Option.isNone_some, Bool.not_true, Bool.not_false, Nat.zero_add, decide_true, decide_false, if_true, if_false, Bool.false_eq_true, ↓reduceIte]
  refine ld_in (b := ub) (v := tv x.t) h rfl ?_
  refine ld_in (b := tb) (v := tv t) h rfl ?_
  rw [o_eqT]
  by_cases h1 : x.t = t
  · simp only [decide_eq_true h1, ↓o_nil, ↓o_field, ↓o_add, ↓o_sub, ↓o_mul, ↓o_lss, ↓o_leq, ↓o_gtr, ↓o_geq, ↓o_not, ↓o_pick, ↓o_eqInt, ↓o_neInt, ↓o_eqBool, ↓o_neBool, ↓o_eqPtr, ↓o_nePtr, ↓o_eqPtr', ↓o_eqSl, ↓o_neSl, ↓o_eqStr, ↓o_neStr, ↓o_len, ↓o_lenS, ↓o_min, ↓o_max, ↓o_extract, ↓o_convInt, ↓cd_true, ↓cd_false, ↓gate_tt, ↓gate_ff, ↓gate_tf, ↓gate_ft, ↓gate_undef, ↓o_bind, ↓stay_v, ↓pop_cons, ↓fin_nil, Option.isNone_none, Option.isNone_some, Bool.not_true, Bool.not_false, Nat.zero_add, decide_true, decide_false, if_true, if_false, Bool.false_eq_true, ↓reduceIte]
    refine ld_in (b := ub) (v := tv x.c) h rfl ?_
    refine ld_in (b := cb) (v := tv n) h rfl ?_
    rw [o_eqT]
    try simp only [↓o_nil, ↓o_field, ↓o_add, ↓o_sub, ↓o_mul, ↓o_lss, ↓o_leq, ↓o_gtr, ↓o_geq, ↓o_not, ↓o_pick, ↓o_eqInt, ↓o_neInt, ↓o_eqBool, ↓o_neBool, ↓o_eqPtr, ↓o_nePtr, ↓o_eqPtr', ↓o_eqSl, ↓o_neSl, ↓o_eqStr, ↓o_neStr, ↓o_len, ↓o_lenS, ↓o_min, ↓o_max, ↓o_extract, ↓o_convInt, ↓cd_true, ↓cd_false, ↓gate_tt, ↓gate_ff, ↓gate_tf, ↓gate_ft, ↓gate_undef, ↓o_bind, ↓stay_v, ↓pop_cons, ↓fin_nil, Option.isNone_none, Option.isNone_some, Bool.not_true, Bool.not_false, Nat.zero_add, decide_true, decide_false, if_true, if_false, Bool.false_eq_true, ↓reduceIte]
    rw [decide_eq_true h1, Bool.true_and] at k
    exact k w h.drop
  · simp only [decide_eq_false h1, ↓o_nil, ↓o_field, ↓o_add, ↓o_sub, ↓o_mul, ↓o_lss, ↓o_leq, ↓o_gtr, ↓o_geq, ↓o_not, ↓o_pick, ↓o_eqInt, ↓o_neInt, ↓o_eqBool, ↓o_neBool, ↓o_eqPtr, ↓o_nePtr, ↓o_eqPtr', ↓o_eqSl, ↓o_neSl, ↓o_eqStr, ↓o_neStr, ↓o_len, ↓o_lenS, ↓o_min, ↓o_max, ↓o_extract, ↓o_convInt, ↓cd_true, ↓cd_false, ↓gate_tt, ↓gate_ff, ↓gate_tf, ↓gate_ft, ↓gate_undef, ↓o_bind, ↓stay_v, ↓pop_cons, ↓fin_nil, Option.isNone_none, Option.isNone_some, Bool.not_true, Bool.not_false, Nat.zero_add, decide_true, decide_false, if_true, if_false, Bool.false_eq_true, ↓reduceIte]
    rw [decide_eq_false h1, Bool.false_and] at k
    exact k w h.drop
theorem DelC_spec {f : Value} {pr : K3 → Bool} (hnd : (co.map (·.1)).Nodup) (h : sat E w (Mk.omap b co * H))
    (hf : ∀ (x : K3) (v : Value) (X : HP) (w : World) (K' : Value → World → Prop), sat E w (X * H) → (∀ w', sat E w' (X * H) → K' (.bool (pr x)) w') → ef prog (oCall f #[.agg (k3cells x).toArray, v]) w K')
    (k : ∀ (co' : List (K3 × Value)) w', co'.Sublist co → (∀ x ∈ co', pr x.1 = false) → sat E w' (Mk.omap b co' * H) → K (.tuple #[]) w') : Calls prog 37 #[.map (some b), f] w (Ret K) := by
  refine c37 ?_
  unfold B37
  refine Mk.range_sl (b := b) (l := co) h fun i w h => ?_
  refine lp_nat (fun q σ w => ∃ (l rest : List (K3 × Value)), σ = [] ∧ q = rest.length ∧ l.Sublist co ∧ (∀ x ∈ l, pr x.1 = true → x ∈ rest) ∧ (rest.map (·.1)).Nodup ∧ sat E w (Mk.omit_ i b l rest * H)) co.length
    ⟨co, co, rfl, rfl, List.Sublist.refl _, fun x hx _ => hx, hnd, h⟩ ?_
  clear h
  rintro q σ w again ⟨l, rest, rfl, rfl, hsub, hpr, hrn, h⟩ hag
  rw [fin_nil]
  refine Mk.next_sl (i := i) (b := b) (l := l) (rest := rest) h (fun h0 => ?_) (fun j x w hj hen h => ?_)
  · subst h0
    rw [o_extract, cd_false]
    refine k l w hsub (fun x hx => ?_) (Mk.omit_close h)
    cases hp : pr x.1
    · rfl
    · exact absurd (hpr x hx hp) (by simp)
  · rw [o_extract, cd_true]
    refine efv_of hen ?_
    rw [o_extract, o_extract]
    have hlt := (List.getElem?_eq_some_iff.1 hj).1
    have hel : (rest.eraseIdx j).length < rest.length := by rw [List.length_eraseIdx, if_pos hlt]; omega
    have hnot := erase_not hrn hj
    have hrn2 : ((rest.eraseIdx j).map (·.1)).Nodup := hrn.sublist ((List.eraseIdx_sublist _ _).map _)
    obtain ⟨x1, xv⟩ := x
    simp only at hnot
    refine us_in h (xs := k3cells x1) rfl (k3_one _) fun ub w h => ?_
    refine ld_agg (b := ub) h rfl ?_
    rw [← star_assoc] at h
    refine hf x1 xv _ w _ h fun w h => ?_
    rw [star_assoc] at h
    refine cd_split (fun hp => ?_) (fun hp => ?_)
    · refine ld_agg (b := ub) h rfl ?_
      refine Mk.delete_it (i := i) (b := b) (l := l) (rest := rest.eraseIdx j) (k := x1) h hnot fun w h => ?_
      refine hag (rest.eraseIdx j).length _ _ hel ⟨Mk.delM l x1, rest.eraseIdx j, rfl, rfl, (Mk.delM_sub l x1).trans hsub, fun y hy hpy => ?_, hrn2, ?_⟩
      · have h1 := Mk.delM_not (hnd.sublist (hsub.map _)) hy
        exact mem_erase hj (hpr y ((Mk.delM_sub l x1).subset hy) hpy) (fun e => h1 (by rw [e]))
      · exact (h.perm (star_left_comm _ _ _)).drop
    · refine hag (rest.eraseIdx j).length _ _ hel ⟨l, rest.eraseIdx j, rfl, rfl, hsub, fun y hy hpy => ?_, hrn2, h.drop⟩
      exact mem_erase hj (hpr y hy hpy) (fun e => by rw [e] at hpy; simp only at hpy; rw [hp] at hpy; cases hpy)
end
end Go.Proofs.YtmnaalpjhkkglaaDoor

/-
  A client is registered, allowed, dropped: what is kept.
-/
set_option linter.all false
set_option maxRecDepth 100000
namespace Go.Proofs.YtmnaalpjhkkglaaDoor
open Go Hold
variable {E : World0} {w : World} {H R : HP} {K : Value → World → Prop}
section
variable {p a b m : Nat} {cl : List (K2 × Value)} {co : List (K3 × Value)}
theorem Register_spec {q : K2} (lt : q.t.length ≤ 100) (ln : q.n.length ≤ 100) (inv : Inv cl co m) (hm : m ≤ 900) (h : sat E w (gI p a b cl co R))
    (k : ∀ (e : Int) cl' w', Inv cl' co (m + 1) → sat E w' (gI p a b cl' co R) → K (.int .i64 e) w') : Calls prog 14 #[.pointer (some ⟨p, 0, none⟩), cvv q] w (Ret K) := by
  have hlc := inv.lc
  refine c14 ?_
  unfold B14
  refine box_sl h fun cb w h => ?_
  have h : sat E w (pts cb (.cells (ccells q).toArray 50 (0, 0)) * gI p a b cl co R) := h
  simp only [↓o_nil, ↓o_field, ↓o_add, ↓o_sub, ↓o_mul, ↓o_lss, ↓o_leq, ↓o_gtr, ↓o_geq, ↓o_not, ↓o_pick, ↓o_eqInt, ↓o_neInt, ↓o_eqBool, ↓o_neBool, ↓o_eqPtr, ↓o_nePtr, ↓o_eqPtr', ↓o_eqSl, ↓o_neSl, ↓o_eqStr, ↓o_neStr, ↓o_len, ↓o_lenS, ↓o_min, ↓o_max, ↓o_extract, ↓o_convInt, ↓cd_true, ↓cd_false, ↓gate_tt, ↓gate_ff, ↓gate_tf, ↓gate_ft, ↓gate_undef, ↓o_bind, ↓stay_v, ↓pop_cons, ↓fin_nil, Option.isNone_none, Option.isNone_some, Bool.not_true, Bool.not_false, Nat.zero_add, decide_true, decide_false, if_true, if_false, Bool.false_eq_true, ↓reduceIte]
  refine ld_in (b := cb) (v := tv q.t) h rfl ?_
  refine IsName_spec h (by omega) fun w h => ?_
  cases hn1 : isName q.t
  · simp only [↓o_nil, ↓o_field, ↓o_add, ↓o_sub, ↓o_mul, ↓o_lss, ↓o_leq, ↓o_gtr, ↓o_geq, ↓o_not, ↓o_pick, ↓o_eqInt, ↓o_neInt, ↓o_eqBool, ↓o_neBool, ↓o_eqPtr, ↓o_nePtr, ↓o_eqPtr', ↓o_eqSl, ↓o_neSl, ↓o_eqStr, ↓o_neStr, ↓o_len, ↓o_lenS, ↓o_min, ↓o_max, ↓o_extract, ↓o_convInt, ↓cd_true, ↓cd_false, ↓gate_tt, ↓gate_ff, ↓gate_tf, ↓gate_ft, ↓gate_undef, ↓o_bind, ↓stay_v, ↓pop_cons, ↓fin_nil, Option.isNone_none, Option.isNone_some, Bool.not_true, Bool.not_false, Nat.zero_add, decide_true, decide_false, if_true, if_false, Bool.false_eq_true, ↓reduceIte]
    exact k _ _ w inv.up h.drop
  simp only [↓o_nil, ↓o_field, ↓o_add, ↓o_sub, ↓o_mul, ↓o_lss, ↓o_leq, ↓o_gtr, ↓o_geq, ↓o_not, ↓o_pick, ↓o_eqInt, ↓o_neInt, ↓o_eqBool, ↓o_neBool, ↓o_eqPtr, ↓o_nePtr, ↓o_eqPtr', ↓o_eqSl, ↓o_neSl, ↓o_eqStr, ↓o_neStr, ↓o_len, ↓o_lenS, ↓o_min, ↓o_max, ↓o_extract, ↓o_convInt, ↓cd_true, ↓cd_false, ↓gate_tt, ↓gate_ff, ↓gate_tf, ↓gate_ft, ↓gate_undef, ↓o_bind, ↓stay_v, ↓pop_cons, ↓fin_nil, Option.isNone_none, Option.isNone_some, Bool.not_true, Bool.not_false, Nat.zero_add, decide_true, decide_false, if_true, if_false, Bool.false_eq_true, ↓reduceIte]
  refine ld_in (b := cb) (v := tv q.n) h rfl ?_
  refine IsName_spec h (by omega) fun w h => ?_
  cases hn2 : isName q.n
  · simp only [↓o_nil, ↓o_field, ↓o_add, ↓o_sub, ↓o_mul, ↓o_lss, ↓o_leq, ↓o_gtr, ↓o_geq, ↓o_not, ↓o_pick, ↓o_eqInt, ↓o_neInt, ↓o_eqBool, ↓o_neBool, ↓o_eqPtr, ↓o_nePtr, ↓o_eqPtr', ↓o_eqSl, ↓o_neSl, ↓o_eqStr, ↓o_neStr, ↓o_len, ↓o_lenS, ↓o_min, ↓o_max, ↓o_extract, ↓o_convInt, ↓cd_true, ↓cd_false, ↓gate_tt, ↓gate_ff, ↓gate_tf, ↓gate_ft, ↓gate_undef, ↓o_bind, ↓stay_v, ↓pop_cons, ↓fin_nil, Option.isNone_none, Option.isNone_some, Bool.not_true, Bool.not_false, Nat.zero_add, decide_true, decide_false, if_true, if_false, Bool.false_eq_true, ↓reduceIte]
    exact k _ _ w inv.up h.drop
  simp only [↓o_nil, ↓o_field, ↓o_add, ↓o_sub, ↓o_mul, ↓o_lss, ↓o_leq, ↓o_gtr, ↓o_geq, ↓o_not, ↓o_pick, ↓o_eqInt, ↓o_neInt, ↓o_eqBool, ↓o_neBool, ↓o_eqPtr, ↓o_nePtr, ↓o_eqPtr', ↓o_eqSl, ↓o_neSl, ↓o_eqStr, ↓o_neStr, ↓o_len, ↓o_lenS, ↓o_min, ↓o_max, ↓o_extract, ↓o_convInt, ↓cd_true, ↓cd_false, ↓gate_tt, ↓gate_ff, ↓gate_tf, ↓gate_ft, ↓gate_undef, ↓o_bind, ↓stay_v, ↓pop_cons, ↓fin_nil, Option.isNone_none, Option.isNone_some, Bool.not_true, Bool.not_false, Nat.zero_add, decide_true, decide_false, if_true, if_false, Bool.false_eq_true, ↓reduceIte]
  refine ld_in (b := cb) (v := tv []) h rfl ?_
  rw [o_lenT]
  simp only [show decide ((24 : Int) < (([] : List UInt8).length : Int)) = false from rfl, ↓o_nil, ↓o_field, ↓o_add, ↓o_sub, ↓o_mul, ↓o_lss, ↓o_leq, ↓o_gtr, ↓o_geq, ↓o_not, ↓o_pick, ↓o_eqInt, ↓o_neInt, ↓o_eqBool, ↓o_neBool, ↓o_eqPtr, ↓o_nePtr, ↓o_eqPtr', ↓o_eqSl, ↓o_neSl, ↓o_eqStr, ↓o_neStr, ↓o_len, ↓o_lenS, ↓o_min, ↓o_max, ↓o_extract, ↓o_convInt, ↓cd_true, ↓cd_false, ↓gate_tt, ↓gate_ff, ↓gate_tf, ↓gate_ft, ↓gate_undef, ↓o_bind, ↓stay_v, ↓pop_cons, ↓fin_nil, Option.isNone_none, Option.isNone_some, Bool.not_true, Bool.not_false, Nat.zero_add, decide_true, decide_false, if_true, if_false, Bool.false_eq_true, ↓reduceIte]
  refine ld_in (b := cb) (v := tv q.t) h rfl ?_
  refine ld_in (b := cb) (v := tv q.n) h rfl ?_
  refine pvv_of (v := .agg (k2cells q).toArray) (fun w => by kernel_rfl) ?_
  refine nm_in h (xs := k2cells q) rfl (k2_one _) fun nb w h => ?_
  refine dr_sl h fun w h _ => ?_
  try simp only [↓o_nil, ↓o_field, ↓o_add, ↓o_sub, ↓o_mul, ↓o_lss, ↓o_leq, ↓o_gtr, ↓o_geq, ↓o_not, ↓o_pick, ↓o_eqInt, ↓o_neInt, ↓o_eqBool, ↓o_neBool, ↓o_eqPtr, ↓o_nePtr, ↓o_eqPtr', ↓o_eqSl, ↓o_neSl, ↓o_eqStr, ↓o_neStr, ↓o_len, ↓o_lenS, ↓o_min, ↓o_max, ↓o_extract, ↓o_convInt, ↓cd_true, ↓cd_false, ↓gate_tt, ↓gate_ff, ↓gate_tf, ↓gate_ft, ↓gate_undef, ↓o_bind, ↓stay_v, ↓pop_cons, ↓fin_nil, Option.isNone_none, Option.isNone_some, Bool.not_true, Bool.not_false, Nat.zero_add, decide_true, decide_false, if_true, if_false, Bool.false_eq_true, ↓reduceIte]
  refine ld_in (b := p) (v := .map (some a)) h rfl ?_
  refine ld_agg (b := nb) h rfl ?_
  try simp only [↓o_nil, ↓o_field, ↓o_add, ↓o_sub, ↓o_mul, ↓o_lss, ↓o_leq, ↓o_gtr, ↓o_geq, ↓o_not, ↓o_pick, ↓o_eqInt, ↓o_neInt, ↓o_eqBool, ↓o_neBool, ↓o_eqPtr, ↓o_nePtr, ↓o_eqPtr', ↓o_eqSl, ↓o_neSl, ↓o_eqStr, ↓o_neStr, ↓o_len, ↓o_lenS, ↓o_min, ↓o_max, ↓o_extract, ↓o_convInt, ↓cd_true, ↓cd_false, ↓gate_tt, ↓gate_ff, ↓gate_tf, ↓gate_ft, ↓gate_undef, ↓o_bind, ↓stay_v, ↓pop_cons, ↓fin_nil, Option.isNone_none, Option.isNone_some, Bool.not_true, Bool.not_false, Nat.zero_add, decide_true, decide_false, if_true, if_false, Bool.false_eq_true, ↓reduceIte]
  cases hx : Mk.lookM cl q with
  | some v =>
    refine Mk.look_yes (b := a) (l := cl) (k := q) h hx ?_
    have hv := inv.c _ (Mk.lookM_mem hx)
    simp only at hv
    subst hv
    try simp only [↓o_nil, ↓o_field, ↓o_add, ↓o_sub, ↓o_mul, ↓o_lss, ↓o_leq, ↓o_gtr, ↓o_geq, ↓o_not, ↓o_pick, ↓o_eqInt, ↓o_neInt, ↓o_eqBool, ↓o_neBool, ↓o_eqPtr, ↓o_nePtr, ↓o_eqPtr', ↓o_eqSl, ↓o_neSl, ↓o_eqStr, ↓o_neStr, ↓o_len, ↓o_lenS, ↓o_min, ↓o_max, ↓o_extract, ↓o_convInt, ↓cd_true, ↓cd_false, ↓gate_tt, ↓gate_ff, ↓gate_tf, ↓gate_ft, ↓gate_undef, ↓o_bind, ↓stay_v, ↓pop_cons, ↓fin_nil, Option.isNone_none, Option.isNone_some, Bool.not_true, Bool.not_false, Nat.zero_add, decide_true, decide_false, if_true, if_false, Bool.false_eq_true, ↓reduceIte]
    refine alloc_sl h fun ab w h => ?_
    have h : sat E w (pts ab (.cells zero4.toArray 50 (0, 0)) * (pts nb (.cells (k2cells q).toArray 101 (0, 0)) * (pts cb (.cells (ccells q).toArray 50 (0, 0)) * gI p a b cl co R))) := h
    refine Mk.st_yes (b := a) (l := cl) (k := q) h hx ?_
    refine st_agg (b := nb) h rfl ?_
    refine st_in (b := p) (v := .map (some a)) h rfl ?_
    refine store_all (b := ab) h (xs := zero4) (vs := ccells q) rfl rfl (cc_one _) fun w h => ?_
    try simp only [↓o_nil, ↓o_field, ↓o_add, ↓o_sub, ↓o_mul, ↓o_lss, ↓o_leq, ↓o_gtr, ↓o_geq, ↓o_not, ↓o_pick, ↓o_eqInt, ↓o_neInt, ↓o_eqBool, ↓o_neBool, ↓o_eqPtr, ↓o_nePtr, ↓o_eqPtr', ↓o_eqSl, ↓o_neSl, ↓o_eqStr, ↓o_neStr, ↓o_len, ↓o_lenS, ↓o_min, ↓o_max, ↓o_extract, ↓o_convInt, ↓cd_true, ↓cd_false, ↓gate_tt, ↓gate_ff, ↓gate_tf, ↓gate_ft, ↓gate_undef, ↓o_bind, ↓stay_v, ↓pop_cons, ↓fin_nil, Option.isNone_none, Option.isNone_some, Bool.not_true, Bool.not_false, Nat.zero_add, decide_true, decide_false, if_true, if_false, Bool.false_eq_true, ↓reduceIte]
    exact k _ _ w inv.up h.drop.drop.drop
  | none =>
    refine Mk.look_no (b := a) (l := cl) (k := q) h hx ?_
    try simp only [↓o_nil, ↓o_field, ↓o_add, ↓o_sub, ↓o_mul, ↓o_lss, ↓o_leq, ↓o_gtr, ↓o_geq, ↓o_not, ↓o_pick, ↓o_eqInt, ↓o_neInt, ↓o_eqBool, ↓o_neBool, ↓o_eqPtr, ↓o_nePtr, ↓o_eqPtr', ↓o_eqSl, ↓o_neSl, ↓o_eqStr, ↓o_neStr, ↓o_len, ↓o_lenS, ↓o_min, ↓o_max, ↓o_extract, ↓o_convInt, ↓cd_true, ↓cd_false, ↓gate_tt, ↓gate_ff, ↓gate_tf, ↓gate_ft, ↓gate_undef, ↓o_bind, ↓stay_v, ↓pop_cons, ↓fin_nil, Option.isNone_none, Option.isNone_some, Bool.not_true, Bool.not_false, Nat.zero_add, decide_true, decide_false, if_true, if_false, Bool.false_eq_true, ↓reduceIte]
    refine alloc_sl h fun ab w h => ?_
    have h : sat E w (pts ab (.cells zero4.toArray 50 (0, 0)) * (pts nb (.cells (k2cells q).toArray 101 (0, 0)) * (pts cb (.cells (ccells q).toArray 50 (0, 0)) * gI p a b cl co R))) := h
    refine Mk.st_no (b := a) (l := cl) (k := q) h hx ?_
    refine st_agg (b := nb) h rfl ?_
    refine st_in (b := p) (v := .map (some a)) h rfl ?_
    refine store_all (b := ab) h (xs := zero4) (vs := zero4) rfl rfl zero4_one fun w h => ?_
    try simp only [↓o_nil, ↓o_field, ↓o_add, ↓o_sub, ↓o_mul, ↓o_lss, ↓o_leq, ↓o_gtr, ↓o_geq, ↓o_not, ↓o_pick, ↓o_eqInt, ↓o_neInt, ↓o_eqBool, ↓o_neBool, ↓o_eqPtr, ↓o_nePtr, ↓o_eqPtr', ↓o_eqSl, ↓o_neSl, ↓o_eqStr, ↓o_neStr, ↓o_len, ↓o_lenS, ↓o_min, ↓o_max, ↓o_extract, ↓o_convInt, ↓cd_true, ↓cd_false, ↓gate_tt, ↓gate_ff, ↓gate_tf, ↓gate_ft, ↓gate_undef, ↓o_bind, ↓stay_v, ↓pop_cons, ↓fin_nil, Option.isNone_none, Option.isNone_some, Bool.not_true, Bool.not_false, Nat.zero_add, decide_true, decide_false, if_true, if_false, Bool.false_eq_true, ↓reduceIte]
    refine ld_in (b := cb) (v := tv q.t) h rfl ?_
    have h := h.drop
    have h := h.perm (show _ = gI p a b cl co (pts nb (.cells (k2cells q).toArray 101 (0, 0)) * (pts cb (.cells (ccells q).toArray 50 (0, 0)) * R)) by (try unfold gI); ac_rfl)
    refine full_spec (by omega) h fun f w h => ?_
    refine cd_split (fun _ => k _ _ w inv.up (h.perm (show _ = pts nb (.cells (k2cells q).toArray 101 (0, 0)) * (pts cb (.cells (ccells q).toArray 50 (0, 0)) * gI p a b cl co R) by (try unfold gI); ac_rfl)).drop.drop) (fun _ => ?_)
    refine dr_sl h fun w h _ => ?_
    try simp only [↓o_nil, ↓o_field, ↓o_add, ↓o_sub, ↓o_mul, ↓o_lss, ↓o_leq, ↓o_gtr, ↓o_geq, ↓o_not, ↓o_pick, ↓o_eqInt, ↓o_neInt, ↓o_eqBool, ↓o_neBool, ↓o_eqPtr, ↓o_nePtr, ↓o_eqPtr', ↓o_eqSl, ↓o_neSl, ↓o_eqStr, ↓o_neStr, ↓o_len, ↓o_lenS, ↓o_min, ↓o_max, ↓o_extract, ↓o_convInt, ↓cd_true, ↓cd_false, ↓gate_tt, ↓gate_ff, ↓gate_tf, ↓gate_ft, ↓gate_undef, ↓o_bind, ↓stay_v, ↓pop_cons, ↓fin_nil, Option.isNone_none, Option.isNone_some, Bool.not_true, Bool.not_false, Nat.zero_add, decide_true, decide_false, if_true, if_false, Bool.false_eq_true, ↓reduceIte]
    refine ld_in (b := p) (v := .map (some a)) h rfl ?_
    refine ld_agg (b := nb) h rfl ?_
    refine ld_agg (b := cb) h rfl ?_
    refine Mk.update_sl (b := a) (l := cl) (k := q) h fun w h => ?_
    refine k _ _ w (inv_reg inv q) ?_
    exact (h.perm (show _ = pts nb (.cells (k2cells q).toArray 101 (0, 0)) * (pts cb (.cells (ccells q).toArray 50 (0, 0)) * gI p a b (Mk.putM cl q (cvv q)) co R) by (try unfold gI); unfold cvv; ac_rfl)).drop.drop
theorem Allow_spec {x : CS} (lt : x.k.t.length ≤ 100) (lu : x.k.u.length ≤ 100) (hs : x.s &&& 15 = x.s) (inv : Inv cl co m) (hm : m ≤ 900) (h : sat E w (gI p a b cl co R))
    (k : ∀ (e : Int) co' w', Inv cl co' (m + 1) → sat E w' (gI p a b cl co' R) → K (.int .i64 e) w') : Calls prog 15 #[.pointer (some ⟨p, 0, none⟩), .agg (cscells x).toArray] w (Ret K) := by
  have hvs : ∀ y ∈ co, ∃ s : UInt8, y.2 = bv s := fun y hy => (inv.o y hy).1.imp fun _ h => h.1
  refine c15 ?_
  unfold B15
  refine box_sl h fun cb w h => ?_
  have h : sat E w (pts cb (.cells (cscells x).toArray 53 (0, 0)) * gI p a b cl co R) := h
  simp only [↓o_nil, ↓o_field, ↓o_add, ↓o_sub, ↓o_mul, ↓o_lss, ↓o_leq, ↓o_gtr, ↓o_geq, ↓o_not, ↓o_pick, ↓o_eqInt, ↓o_neInt, ↓o_eqBool, ↓o_neBool, ↓o_eqPtr, ↓o_nePtr, ↓o_eqPtr', ↓o_eqSl, ↓o_neSl, ↓o_eqStr, ↓o_neStr, ↓o_len, ↓o_lenS, ↓o_min, ↓o_max, ↓o_extract, ↓o_convInt, ↓cd_true, ↓cd_false, ↓gate_tt, ↓gate_ff, ↓gate_tf, ↓gate_ft, ↓gate_undef, ↓o_bind, ↓stay_v, ↓pop_cons, ↓fin_nil, Option.isNone_none, Option.isNone_some, Bool.not_true, Bool.not_false, Nat.zero_add, decide_true, decide_false, if_true, if_false, Bool.false_eq_true, ↓reduceIte]
  refine ld_in (b := cb) (v := tv x.k.t) h rfl ?_
  refine IsName_spec h (by omega) fun w h => ?_
  cases hn1 : isName x.k.t
  · simp only [↓o_nil, ↓o_field, ↓o_add, ↓o_sub, ↓o_mul, ↓o_lss, ↓o_leq, ↓o_gtr, ↓o_geq, ↓o_not, ↓o_pick, ↓o_eqInt, ↓o_neInt, ↓o_eqBool, ↓o_neBool, ↓o_eqPtr, ↓o_nePtr, ↓o_eqPtr', ↓o_eqSl, ↓o_neSl, ↓o_eqStr, ↓o_neStr, ↓o_len, ↓o_lenS, ↓o_min, ↓o_max, ↓o_extract, ↓o_convInt, ↓cd_true, ↓cd_false, ↓gate_tt, ↓gate_ff, ↓gate_tf, ↓gate_ft, ↓gate_undef, ↓o_bind, ↓stay_v, ↓pop_cons, ↓fin_nil, Option.isNone_none, Option.isNone_some, Bool.not_true, Bool.not_false, Nat.zero_add, decide_true, decide_false, if_true, if_false, Bool.false_eq_true, ↓reduceIte]
    exact k _ _ w inv.up h.drop
  simp only [↓o_nil, ↓o_field, ↓o_add, ↓o_sub, ↓o_mul, ↓o_lss, ↓o_leq, ↓o_gtr, ↓o_geq, ↓o_not, ↓o_pick, ↓o_eqInt, ↓o_neInt, ↓o_eqBool, ↓o_neBool, ↓o_eqPtr, ↓o_nePtr, ↓o_eqPtr', ↓o_eqSl, ↓o_neSl, ↓o_eqStr, ↓o_neStr, ↓o_len, ↓o_lenS, ↓o_min, ↓o_max, ↓o_extract, ↓o_convInt, ↓cd_true, ↓cd_false, ↓gate_tt, ↓gate_ff, ↓gate_tf, ↓gate_ft, ↓gate_undef, ↓o_bind, ↓stay_v, ↓pop_cons, ↓fin_nil, Option.isNone_none, Option.isNone_some, Bool.not_true, Bool.not_false, Nat.zero_add, decide_true, decide_false, if_true, if_false, Bool.false_eq_true, ↓reduceIte]
  refine ld_in (b := cb) (v := tv x.k.u) h rfl ?_
  refine IsName_spec h (by omega) fun w h => ?_
  cases hn2 : isName x.k.u
  · simp only [↓o_nil, ↓o_field, ↓o_add, ↓o_sub, ↓o_mul, ↓o_lss, ↓o_leq, ↓o_gtr, ↓o_geq, ↓o_not, ↓o_pick, ↓o_eqInt, ↓o_neInt, ↓o_eqBool, ↓o_neBool, ↓o_eqPtr, ↓o_nePtr, ↓o_eqPtr', ↓o_eqSl, ↓o_neSl, ↓o_eqStr, ↓o_neStr, ↓o_len, ↓o_lenS, ↓o_min, ↓o_max, ↓o_extract, ↓o_convInt, ↓cd_true, ↓cd_false, ↓gate_tt, ↓gate_ff, ↓gate_tf, ↓gate_ft, ↓gate_undef, ↓o_bind, ↓stay_v, ↓pop_cons, ↓fin_nil, Option.isNone_none, Option.isNone_some, Bool.not_true, Bool.not_false, Nat.zero_add, decide_true, decide_false, if_true, if_false, Bool.false_eq_true, ↓reduceIte]
    exact k _ _ w inv.up h.drop
  simp only [↓o_nil, ↓o_field, ↓o_add, ↓o_sub, ↓o_mul, ↓o_lss, ↓o_leq, ↓o_gtr, ↓o_geq, ↓o_not, ↓o_pick, ↓o_eqInt, ↓o_neInt, ↓o_eqBool, ↓o_neBool, ↓o_eqPtr, ↓o_nePtr, ↓o_eqPtr', ↓o_eqSl, ↓o_neSl, ↓o_eqStr, ↓o_neStr, ↓o_len, ↓o_lenS, ↓o_min, ↓o_max, ↓o_extract, ↓o_convInt, ↓cd_true, ↓cd_false, ↓gate_tt, ↓gate_ff, ↓gate_tf, ↓gate_ft, ↓gate_undef, ↓o_bind, ↓stay_v, ↓pop_cons, ↓fin_nil, Option.isNone_none, Option.isNone_some, Bool.not_true, Bool.not_false, Nat.zero_add, decide_true, decide_false, if_true, if_false, Bool.false_eq_true, ↓reduceIte]
  refine ld_in (b := cb) (v := tv x.k.t) h rfl ?_
  refine ld_in (b := cb) (v := tv x.k.c) h rfl ?_
  have h := h.perm (show _ = gI p a b cl co (pts cb (.cells (cscells x).toArray 53 (0, 0)) * R) by (try unfold gI); ac_rfl)
  refine look_spec inv.c h (fun _ w h => ?_) (fun hc w h => ?_)
  · rw [o_extract, o_extract]
    refine cl_in h (xs := zero4) rfl zero4_one fun xb w h => ?_
    try simp only [↓o_nil, ↓o_field, ↓o_add, ↓o_sub, ↓o_mul, ↓o_lss, ↓o_leq, ↓o_gtr, ↓o_geq, ↓o_not, ↓o_pick, ↓o_eqInt, ↓o_neInt, ↓o_eqBool, ↓o_neBool, ↓o_eqPtr, ↓o_nePtr, ↓o_eqPtr', ↓o_eqSl, ↓o_neSl, ↓o_eqStr, ↓o_neStr, ↓o_len, ↓o_lenS, ↓o_min, ↓o_max, ↓o_extract, ↓o_convInt, ↓cd_true, ↓cd_false, ↓gate_tt, ↓gate_ff, ↓gate_tf, ↓gate_ft, ↓gate_undef, ↓o_bind, ↓stay_v, ↓pop_cons, ↓fin_nil, Option.isNone_none, Option.isNone_some, Bool.not_true, Bool.not_false, Nat.zero_add, decide_true, decide_false, if_true, if_false, Bool.false_eq_true, ↓reduceIte]
    refine ld_part (b := cb) h (ocl x.k.t x.k.u) rfl rfl ?_
    refine ld_in (b := cb) (v := tv x.k.c) h rfl ?_
    refine pvv_of (v := .agg (k3cells x.k).toArray) (fun w => by kernel_rfl) ?_
    refine us_in h (xs := k3cells x.k) rfl (k3_one _) fun ub w h => ?_
    refine dr_sl h fun w h _ => ?_
    try simp only [↓o_nil, ↓o_field, ↓o_add, ↓o_sub, ↓o_mul, ↓o_lss, ↓o_leq, ↓o_gtr, ↓o_geq, ↓o_not, ↓o_pick, ↓o_eqInt, ↓o_neInt, ↓o_eqBool, ↓o_neBool, ↓o_eqPtr, ↓o_nePtr, ↓o_eqPtr', ↓o_eqSl, ↓o_neSl, ↓o_eqStr, ↓o_neStr, ↓o_len, ↓o_lenS, ↓o_min, ↓o_max, ↓o_extract, ↓o_convInt, ↓cd_true, ↓cd_false, ↓gate_tt, ↓gate_ff, ↓gate_tf, ↓gate_ft, ↓gate_undef, ↓o_bind, ↓stay_v, ↓pop_cons, ↓fin_nil, Option.isNone_none, Option.isNone_some, Bool.not_true, Bool.not_false, Nat.zero_add, decide_true, decide_false, if_true, if_false, Bool.false_eq_true, ↓reduceIte]
    refine ld_in (b := p) (v := .map (some b)) h rfl ?_
    refine ld_agg (b := ub) h rfl ?_
    try simp only [↓o_nil, ↓o_field, ↓o_add, ↓o_sub, ↓o_mul, ↓o_lss, ↓o_leq, ↓o_gtr, ↓o_geq, ↓o_not, ↓o_pick, ↓o_eqInt, ↓o_neInt, ↓o_eqBool, ↓o_neBool, ↓o_eqPtr, ↓o_nePtr, ↓o_eqPtr', ↓o_eqSl, ↓o_neSl, ↓o_eqStr, ↓o_neStr, ↓o_len, ↓o_lenS, ↓o_min, ↓o_max, ↓o_extract, ↓o_convInt, ↓cd_true, ↓cd_false, ↓gate_tt, ↓gate_ff, ↓gate_tf, ↓gate_ft, ↓gate_undef, ↓o_bind, ↓stay_v, ↓pop_cons, ↓fin_nil, Option.isNone_none, Option.isNone_some, Bool.not_true, Bool.not_false, Nat.zero_add, decide_true, decide_false, if_true, if_false, Bool.false_eq_true, ↓reduceIte]
    have hend : ∀ {w}, sat E w (pts ub (.cells (k3cells x.k).toArray 104 (0, 0)) * (pts xb (.cells zero4.toArray 50 (0, 0)) * gI p a b cl co (pts cb (.cells (cscells x).toArray 53 (0, 0)) * R))) → sat E w (gI p a b cl co R) := fun h =>
      (h.perm (show _ = pts ub (.cells (k3cells x.k).toArray 104 (0, 0)) * (pts xb (.cells zero4.toArray 50 (0, 0)) * (pts cb (.cells (cscells x).toArray 53 (0, 0)) * gI p a b cl co R)) by (try unfold gI); ac_rfl)).drop.drop.drop
    cases hx : Mk.lookM co x.k with
    | some v =>
      refine Mk.look_yes (b := b) (l := co) (k := x.k) h hx ?_
      simp only [show decide ((4 : Int) = 0) = false from rfl, ↓o_nil, ↓o_field, ↓o_add, ↓o_sub, ↓o_mul, ↓o_lss, ↓o_leq, ↓o_gtr, ↓o_geq, ↓o_not, ↓o_pick, ↓o_eqInt, ↓o_neInt, ↓o_eqBool, ↓o_neBool, ↓o_eqPtr, ↓o_nePtr, ↓o_eqPtr', ↓o_eqSl, ↓o_neSl, ↓o_eqStr, ↓o_neStr, ↓o_len, ↓o_lenS, ↓o_min, ↓o_max, ↓o_extract, ↓o_convInt, ↓cd_true, ↓cd_false, ↓gate_tt, ↓gate_ff, ↓gate_tf, ↓gate_ft, ↓gate_undef, ↓o_bind, ↓stay_v, ↓pop_cons, ↓fin_nil, Option.isNone_none, Option.isNone_some, Bool.not_true, Bool.not_false, Nat.zero_add, decide_true, decide_false, if_true, if_false, Bool.false_eq_true, ↓reduceIte]
      exact k _ _ w inv.up (hend h)
    | none =>
      refine Mk.look_no (b := b) (l := co) (k := x.k) h hx ?_
      simp only [show decide ((4 : Int) = 0) = false from rfl, ↓o_nil, ↓o_field, ↓o_add, ↓o_sub, ↓o_mul, ↓o_lss, ↓o_leq, ↓o_gtr, ↓o_geq, ↓o_not, ↓o_pick, ↓o_eqInt, ↓o_neInt, ↓o_eqBool, ↓o_neBool, ↓o_eqPtr, ↓o_nePtr, ↓o_eqPtr', ↓o_eqSl, ↓o_neSl, ↓o_eqStr, ↓o_neStr, ↓o_len, ↓o_lenS, ↓o_min, ↓o_max, ↓o_extract, ↓o_convInt, ↓cd_true, ↓cd_false, ↓gate_tt, ↓gate_ff, ↓gate_tf, ↓gate_ft, ↓gate_undef, ↓o_bind, ↓stay_v, ↓pop_cons, ↓fin_nil, Option.isNone_none, Option.isNone_some, Bool.not_true, Bool.not_false, Nat.zero_add, decide_true, decide_false, if_true, if_false, Bool.false_eq_true, ↓reduceIte]
      exact k _ _ w inv.up (hend h)
  · rw [o_extract, o_extract]
    refine cl_in h (xs := ccells ⟨x.k.t, x.k.c⟩) rfl (cc_one _) fun xb w h => ?_
    try simp only [↓o_nil, ↓o_field, ↓o_add, ↓o_sub, ↓o_mul, ↓o_lss, ↓o_leq, ↓o_gtr, ↓o_geq, ↓o_not, ↓o_pick, ↓o_eqInt, ↓o_neInt, ↓o_eqBool, ↓o_neBool, ↓o_eqPtr, ↓o_nePtr, ↓o_eqPtr', ↓o_eqSl, ↓o_neSl, ↓o_eqStr, ↓o_neStr, ↓o_len, ↓o_lenS, ↓o_min, ↓o_max, ↓o_extract, ↓o_convInt, ↓cd_true, ↓cd_false, ↓gate_tt, ↓gate_ff, ↓gate_tf, ↓gate_ft, ↓gate_undef, ↓o_bind, ↓stay_v, ↓pop_cons, ↓fin_nil, Option.isNone_none, Option.isNone_some, Bool.not_true, Bool.not_false, Nat.zero_add, decide_true, decide_false, if_true, if_false, Bool.false_eq_true, ↓reduceIte]
    refine ld_part (b := cb) h (ocl x.k.t x.k.u) rfl rfl ?_
    refine ld_in (b := cb) (v := tv x.k.c) h rfl ?_
    refine pvv_of (v := .agg (k3cells x.k).toArray) (fun w => by kernel_rfl) ?_
    refine us_in h (xs := k3cells x.k) rfl (k3_one _) fun ub w h => ?_
    refine dr_sl h fun w h _ => ?_
    try simp only [↓o_nil, ↓o_field, ↓o_add, ↓o_sub, ↓o_mul, ↓o_lss, ↓o_leq, ↓o_gtr, ↓o_geq, ↓o_not, ↓o_pick, ↓o_eqInt, ↓o_neInt, ↓o_eqBool, ↓o_neBool, ↓o_eqPtr, ↓o_nePtr, ↓o_eqPtr', ↓o_eqSl, ↓o_neSl, ↓o_eqStr, ↓o_neStr, ↓o_len, ↓o_lenS, ↓o_min, ↓o_max, ↓o_extract, ↓o_convInt, ↓cd_true, ↓cd_false, ↓gate_tt, ↓gate_ff, ↓gate_tf, ↓gate_ft, ↓gate_undef, ↓o_bind, ↓stay_v, ↓pop_cons, ↓fin_nil, Option.isNone_none, Option.isNone_some, Bool.not_true, Bool.not_false, Nat.zero_add, decide_true, decide_false, if_true, if_false, Bool.false_eq_true, ↓reduceIte]
    refine ld_in (b := p) (v := .map (some b)) h rfl ?_
    refine ld_agg (b := ub) h rfl ?_
    try simp only [↓o_nil, ↓o_field, ↓o_add, ↓o_sub, ↓o_mul, ↓o_lss, ↓o_leq, ↓o_gtr, ↓o_geq, ↓o_not, ↓o_pick, ↓o_eqInt, ↓o_neInt, ↓o_eqBool, ↓o_neBool, ↓o_eqPtr, ↓o_nePtr, ↓o_eqPtr', ↓o_eqSl, ↓o_neSl, ↓o_eqStr, ↓o_neStr, ↓o_len, ↓o_lenS, ↓o_min, ↓o_max, ↓o_extract, ↓o_convInt, ↓cd_true, ↓cd_false, ↓gate_tt, ↓gate_ff, ↓gate_tf, ↓gate_ft, ↓gate_undef, ↓o_bind, ↓stay_v, ↓pop_cons, ↓fin_nil, Option.isNone_none, Option.isNone_some, Bool.not_true, Bool.not_false, Nat.zero_add, decide_true, decide_false, if_true, if_false, Bool.false_eq_true, ↓reduceIte]
    have hback : ∀ {w co'}, sat E w (pts ub (.cells (k3cells x.k).toArray 104 (0, 0)) * (pts xb (.cells (ccells ⟨x.k.t, x.k.c⟩).toArray 50 (0, 0)) * gI p a b cl co' (pts cb (.cells (cscells x).toArray 53 (0, 0)) * R))) → sat E w (gI p a b cl co' R) := fun h =>
      (h.perm (show _ = pts ub (.cells (k3cells x.k).toArray 104 (0, 0)) * (pts xb (.cells (ccells ⟨x.k.t, x.k.c⟩).toArray 50 (0, 0)) * (pts cb (.cells (cscells x).toArray 53 (0, 0)) * gI p a b cl _ R)) by (try unfold gI); ac_rfl)).drop.drop.drop
    obtain ⟨z, hz⟩ : ∃ z, ∀ w, (binOp .andNot 48 (bv x.s) (.int .u8 15)).run prog w = .ok (.int .u8 z) w := ⟨_, fun w => rfl⟩
    have hput : ∀ {w}, (Mk.findM co x.k ≠ none ∨ (co.filter fun y => ofU x.k.t x.k.u y.1).length < 4) → sat E w (pts ub (.cells (k3cells x.k).toArray 104 (0, 0)) * (pts xb (.cells (ccells ⟨x.k.t, x.k.c⟩).toArray 50 (0, 0)) * gI p a b cl co (pts cb (.cells (cscells x).toArray 53 (0, 0)) * R))) →
        efu prog (Instr.mapUpdate 92 (.map (some b)) (.agg (k3cells x.k).toArray) (bv x.s)) w fun _ w => K (.int .i64 0) w := fun {w} hr h => by
      refine Mk.update_sl (b := b) (l := co) (k := x.k) h fun w h => ?_
      refine k _ _ w (inv_allow inv hs hc hr) (hback ?_)
      exact h.perm (by (try unfold gI); ac_rfl)
    cases hx : Mk.lookM co x.k with
    | some v =>
      refine Mk.look_yes (b := b) (l := co) (k := x.k) h hx ?_
      simp only [show decide ((0 : Int) = 0) = true from rfl, ↓o_nil, ↓o_field, ↓o_add, ↓o_sub, ↓o_mul, ↓o_lss, ↓o_leq, ↓o_gtr, ↓o_geq, ↓o_not, ↓o_pick, ↓o_eqInt, ↓o_neInt, ↓o_eqBool, ↓o_neBool, ↓o_eqPtr, ↓o_nePtr, ↓o_eqPtr', ↓o_eqSl, ↓o_neSl, ↓o_eqStr, ↓o_neStr, ↓o_len, ↓o_lenS, ↓o_min, ↓o_max, ↓o_extract, ↓o_convInt, ↓cd_true, ↓cd_false, ↓gate_tt, ↓gate_ff, ↓gate_tf, ↓gate_ft, ↓gate_undef, ↓o_bind, ↓stay_v, ↓pop_cons, ↓fin_nil, Option.isNone_none, Option.isNone_some, Bool.not_true, Bool.not_false, Nat.zero_add, decide_true, decide_false, if_true, if_false, Bool.false_eq_true, ↓reduceIte]
      refine ld_in (b := cb) (v := bv x.s) h rfl ?_
      refine ld_in (b := xb) (v := .int .u8 15) h rfl ?_
      refine pvv_of hz ?_
      rw [o_neInt]
      refine cd_dec' (fun _ => ?_) (fun _ => k _ _ w inv.up (hback h))
      try simp only [↓o_nil, ↓o_field, ↓o_add, ↓o_sub, ↓o_mul, ↓o_lss, ↓o_leq, ↓o_gtr, ↓o_geq, ↓o_not, ↓o_pick, ↓o_eqInt, ↓o_neInt, ↓o_eqBool, ↓o_neBool, ↓o_eqPtr, ↓o_nePtr, ↓o_eqPtr', ↓o_eqSl, ↓o_neSl, ↓o_eqStr, ↓o_neStr, ↓o_len, ↓o_lenS, ↓o_min, ↓o_max, ↓o_extract, ↓o_convInt, ↓cd_true, ↓cd_false, ↓gate_tt, ↓gate_ff, ↓gate_tf, ↓gate_ft, ↓gate_undef, ↓o_bind, ↓stay_v, ↓pop_cons, ↓fin_nil, Option.isNone_none, Option.isNone_some, Bool.not_true, Bool.not_false, Nat.zero_add, decide_true, decide_false, if_true, if_false, Bool.false_eq_true, ↓reduceIte]
      refine dr_sl h fun w h _ => ?_
      try simp only [↓o_nil, ↓o_field, ↓o_add, ↓o_sub, ↓o_mul, ↓o_lss, ↓o_leq, ↓o_gtr, ↓o_geq, ↓o_not, ↓o_pick, ↓o_eqInt, ↓o_neInt, ↓o_eqBool, ↓o_neBool, ↓o_eqPtr, ↓o_nePtr, ↓o_eqPtr', ↓o_eqSl, ↓o_neSl, ↓o_eqStr, ↓o_neStr, ↓o_len, ↓o_lenS, ↓o_min, ↓o_max, ↓o_extract, ↓o_convInt, ↓cd_true, ↓cd_false, ↓gate_tt, ↓gate_ff, ↓gate_tf, ↓gate_ft, ↓gate_undef, ↓o_bind, ↓stay_v, ↓pop_cons, ↓fin_nil, Option.isNone_none, Option.isNone_some, Bool.not_true, Bool.not_false, Nat.zero_add, decide_true, decide_false, if_true, if_false, Bool.false_eq_true, ↓reduceIte]
      refine ld_in (b := p) (v := .map (some b)) h rfl ?_
      refine ld_agg (b := ub) h rfl ?_
      refine ld_in (b := cb) (v := bv x.s) h rfl ?_
      exact hput (.inl (fun e => by unfold Mk.lookM at hx; rw [e] at hx; cases hx)) h
    | none =>
      refine Mk.look_no (b := b) (l := co) (k := x.k) h hx ?_
      simp only [show decide ((0 : Int) = 0) = true from rfl, ↓o_nil, ↓o_field, ↓o_add, ↓o_sub, ↓o_mul, ↓o_lss, ↓o_leq, ↓o_gtr, ↓o_geq, ↓o_not, ↓o_pick, ↓o_eqInt, ↓o_neInt, ↓o_eqBool, ↓o_neBool, ↓o_eqPtr, ↓o_nePtr, ↓o_eqPtr', ↓o_eqSl, ↓o_neSl, ↓o_eqStr, ↓o_neStr, ↓o_len, ↓o_lenS, ↓o_min, ↓o_max, ↓o_extract, ↓o_convInt, ↓cd_true, ↓cd_false, ↓gate_tt, ↓gate_ff, ↓gate_tf, ↓gate_ft, ↓gate_undef, ↓o_bind, ↓stay_v, ↓pop_cons, ↓fin_nil, Option.isNone_none, Option.isNone_some, Bool.not_true, Bool.not_false, Nat.zero_add, decide_true, decide_false, if_true, if_false, Bool.false_eq_true, ↓reduceIte]
      refine ld_in (b := cb) (v := bv x.s) h rfl ?_
      refine ld_in (b := xb) (v := .int .u8 15) h rfl ?_
      refine pvv_of hz ?_
      rw [o_neInt]
      refine cd_dec' (fun _ => ?_) (fun _ => k _ _ w inv.up (hback h))
      try simp only [↓o_nil, ↓o_field, ↓o_add, ↓o_sub, ↓o_mul, ↓o_lss, ↓o_leq, ↓o_gtr, ↓o_geq, ↓o_not, ↓o_pick, ↓o_eqInt, ↓o_neInt, ↓o_eqBool, ↓o_neBool, ↓o_eqPtr, ↓o_nePtr, ↓o_eqPtr', ↓o_eqSl, ↓o_neSl, ↓o_eqStr, ↓o_neStr, ↓o_len, ↓o_lenS, ↓o_min, ↓o_max, ↓o_extract, ↓o_convInt, ↓cd_true, ↓cd_false, ↓gate_tt, ↓gate_ff, ↓gate_tf, ↓gate_ft, ↓gate_undef, ↓o_bind, ↓stay_v, ↓pop_cons, ↓fin_nil, Option.isNone_none, Option.isNone_some, Bool.not_true, Bool.not_false, Nat.zero_add, decide_true, decide_false, if_true, if_false, Bool.false_eq_true, ↓reduceIte]
      refine ld_part (b := cb) h (ocl x.k.t x.k.u) rfl rfl ?_
      have h := h.perm (show _ = gI p a b cl co (pts ub (.cells (k3cells x.k).toArray 104 (0, 0)) * (pts xb (.cells (ccells ⟨x.k.t, x.k.c⟩).toArray 50 (0, 0)) * (pts cb (.cells (cscells x).toArray 53 (0, 0)) * R))) by (try unfold gI); ac_rfl)
      refine Consents_spec hvs (inv.few _ _) h fun sa sc w h => ?_
      have h := h.perm (show _ = pts ub (.cells (k3cells x.k).toArray 104 (0, 0)) * (pts xb (.cells (ccells ⟨x.k.t, x.k.c⟩).toArray 50 (0, 0)) * gI p a b cl co (pts cb (.cells (cscells x).toArray 53 (0, 0)) * R)) by (try unfold gI); ac_rfl)
      try simp only [↓o_nil, ↓o_field, ↓o_add, ↓o_sub, ↓o_mul, ↓o_lss, ↓o_leq, ↓o_gtr, ↓o_geq, ↓o_not, ↓o_pick, ↓o_eqInt, ↓o_neInt, ↓o_eqBool, ↓o_neBool, ↓o_eqPtr, ↓o_nePtr, ↓o_eqPtr', ↓o_eqSl, ↓o_neSl, ↓o_eqStr, ↓o_neStr, ↓o_len, ↓o_lenS, ↓o_min, ↓o_max, ↓o_extract, ↓o_convInt, ↓cd_true, ↓cd_false, ↓gate_tt, ↓gate_ff, ↓gate_tf, ↓gate_ft, ↓gate_undef, ↓o_bind, ↓stay_v, ↓pop_cons, ↓fin_nil, Option.isNone_none, Option.isNone_some, Bool.not_true, Bool.not_false, Nat.zero_add, decide_true, decide_false, if_true, if_false, Bool.false_eq_true, ↓reduceIte]
      refine cd_dec (fun _ => k _ _ w inv.up (hback h)) (fun hlt => ?_)
      refine dr_sl h fun w h _ => ?_
      try simp only [↓o_nil, ↓o_field, ↓o_add, ↓o_sub, ↓o_mul, ↓o_lss, ↓o_leq, ↓o_gtr, ↓o_geq, ↓o_not, ↓o_pick, ↓o_eqInt, ↓o_neInt, ↓o_eqBool, ↓o_neBool, ↓o_eqPtr, ↓o_nePtr, ↓o_eqPtr', ↓o_eqSl, ↓o_neSl, ↓o_eqStr, ↓o_neStr, ↓o_len, ↓o_lenS, ↓o_min, ↓o_max, ↓o_extract, ↓o_convInt, ↓cd_true, ↓cd_false, ↓gate_tt, ↓gate_ff, ↓gate_tf, ↓gate_ft, ↓gate_undef, ↓o_bind, ↓stay_v, ↓pop_cons, ↓fin_nil, Option.isNone_none, Option.isNone_some, Bool.not_true, Bool.not_false, Nat.zero_add, decide_true, decide_false, if_true, if_false, Bool.false_eq_true, ↓reduceIte]
      refine ld_in (b := p) (v := .map (some b)) h rfl ?_
      refine ld_agg (b := ub) h rfl ?_
      refine ld_in (b := cb) (v := bv x.s) h rfl ?_
      exact hput (.inr (by omega)) h
theorem Drop_spec {t n : List UInt8} (inv : Inv cl co m) (h : sat E w (gI p a b cl co R))
    (k : ∀ (e : Int) cl' co' w', Inv cl' co' m → sat E w' (gI p a b cl' co' R) → K (.int .i64 e) w') : Calls prog 16 #[.pointer (some ⟨p, 0, none⟩), tv t, tv n] w (Ret K) := by
  refine c16 ?_
  unfold B16
  refine box_sl h fun tb w h => ?_
  have h : sat E w (pts tb (.cells [tv t].toArray 9 (0, 0)) * gI p a b cl co R) := h
  refine box_sl h fun cb w h => ?_
  have h : sat E w (pts cb (.cells [tv n].toArray 9 (0, 0)) * (pts tb (.cells [tv t].toArray 9 (0, 0)) * gI p a b cl co R)) := h
  refine ld_in (b := tb) (v := tv t) h rfl ?_
  refine ld_in (b := cb) (v := tv n) h rfl ?_
  have h := h.perm (show _ = gI p a b cl co (pts cb (.cells [tv n].toArray 9 (0, 0)) * (pts tb (.cells [tv t].toArray 9 (0, 0)) * R)) by (try unfold gI); ac_rfl)
  refine look_spec inv.c h (fun _ w h => ?_) (fun hc w h => ?_)
  · rw [o_extract, o_extract]
    refine cl_in h (xs := zero4) rfl zero4_one fun xb w h => ?_
    unfold jn
    simp only [show decide ((4 : Int) = 0) = false from rfl, ↓o_nil, ↓o_field, ↓o_add, ↓o_sub, ↓o_mul, ↓o_lss, ↓o_leq, ↓o_gtr, ↓o_geq, ↓o_not, ↓o_pick, ↓o_eqInt, ↓o_neInt, ↓o_eqBool, ↓o_neBool, ↓o_eqPtr, ↓o_nePtr, ↓o_eqPtr', ↓o_eqSl, ↓o_neSl, ↓o_eqStr, ↓o_neStr, ↓o_len, ↓o_lenS, ↓o_min, ↓o_max, ↓o_extract, ↓o_convInt, ↓cd_true, ↓cd_false, ↓gate_tt, ↓gate_ff, ↓gate_tf, ↓gate_ft, ↓gate_undef, ↓o_bind, ↓stay_v, ↓pop_cons, ↓fin_nil, Option.isNone_none, Option.isNone_some, Bool.not_true, Bool.not_false, Nat.zero_add, decide_true, decide_false, if_true, if_false, Bool.false_eq_true, ↓reduceIte]
    exact k _ _ _ w inv (h.perm (show _ = pts xb (.cells zero4.toArray 50 (0, 0)) * (pts cb (.cells [tv n].toArray 9 (0, 0)) * (pts tb (.cells [tv t].toArray 9 (0, 0)) * gI p a b cl co R)) by (try unfold gI); ac_rfl)).drop.drop.drop
  · rw [o_extract, o_extract]
    refine cl_in h (xs := ccells ⟨t, n⟩) rfl (cc_one _) fun xb w h => ?_
    have h := h.drop
    unfold jn
    simp only [show decide ((0 : Int) = 0) = true from rfl, ↓o_nil, ↓o_field, ↓o_add, ↓o_sub, ↓o_mul, ↓o_lss, ↓o_leq, ↓o_gtr, ↓o_geq, ↓o_not, ↓o_pick, ↓o_eqInt, ↓o_neInt, ↓o_eqBool, ↓o_neBool, ↓o_eqPtr, ↓o_nePtr, ↓o_eqPtr', ↓o_eqSl, ↓o_neSl, ↓o_eqStr, ↓o_neStr, ↓o_len, ↓o_lenS, ↓o_min, ↓o_max, ↓o_extract, ↓o_convInt, ↓cd_true, ↓cd_false, ↓gate_tt, ↓gate_ff, ↓gate_tf, ↓gate_ft, ↓gate_undef, ↓o_bind, ↓stay_v, ↓pop_cons, ↓fin_nil, Option.isNone_none, Option.isNone_some, Bool.not_true, Bool.not_false, Nat.zero_add, decide_true, decide_false, if_true, if_false, Bool.false_eq_true, ↓reduceIte]
    refine dr_sl h fun w h _ => ?_
    try simp only [↓o_nil, ↓o_field, ↓o_add, ↓o_sub, ↓o_mul, ↓o_lss, ↓o_leq, ↓o_gtr, ↓o_geq, ↓o_not, ↓o_pick, ↓o_eqInt, ↓o_neInt, ↓o_eqBool, ↓o_neBool, ↓o_eqPtr, ↓o_nePtr, ↓o_eqPtr', ↓o_eqSl, ↓o_neSl, ↓o_eqStr, ↓o_neStr, ↓o_len, ↓o_lenS, ↓o_min, ↓o_max, ↓o_extract, ↓o_convInt, ↓cd_true, ↓cd_false, ↓gate_tt, ↓gate_ff, ↓gate_tf, ↓gate_ft, ↓gate_undef, ↓o_bind, ↓stay_v, ↓pop_cons, ↓fin_nil, Option.isNone_none, Option.isNone_some, Bool.not_true, Bool.not_false, Nat.zero_add, decide_true, decide_false, if_true, if_false, Bool.false_eq_true, ↓reduceIte]
    refine ld_in (b := p) (v := .map (some a)) h rfl ?_
    refine ld_in (b := tb) (v := tv t) h rfl ?_
    refine ld_in (b := cb) (v := tv n) h rfl ?_
    refine pvv_of (v := Mk.ke (⟨t, n⟩ : K2)) (fun w => by kernel_rfl) ?_
    refine Mk.delete_sl (b := a) (l := cl) (k := ⟨t, n⟩) h fun w h => ?_
    refine st_in (b := cb) (v := tv n) h rfl ?_
    refine st_in (b := tb) (v := tv t) h rfl ?_
    try simp only [↓o_nil, ↓o_field, ↓o_add, ↓o_sub, ↓o_mul, ↓o_lss, ↓o_leq, ↓o_gtr, ↓o_geq, ↓o_not, ↓o_pick, ↓o_eqInt, ↓o_neInt, ↓o_eqBool, ↓o_neBool, ↓o_eqPtr, ↓o_nePtr, ↓o_eqPtr', ↓o_eqSl, ↓o_neSl, ↓o_eqStr, ↓o_neStr, ↓o_len, ↓o_lenS, ↓o_min, ↓o_max, ↓o_extract, ↓o_convInt, ↓cd_true, ↓cd_false, ↓gate_tt, ↓gate_ff, ↓gate_tf, ↓gate_ft, ↓gate_undef, ↓o_bind, ↓stay_v, ↓pop_cons, ↓fin_nil, Option.isNone_none, Option.isNone_some, Bool.not_true, Bool.not_false, Nat.zero_add, decide_true, decide_false, if_true, if_false, Bool.false_eq_true, ↓reduceIte]
    refine ld_in (b := p) (v := .map (some b)) h rfl ?_
    refine pvv_of (v := .func (.func 38) #[] #[.pointer (some ⟨tb, 0, none⟩), .pointer (some ⟨cb, 0, none⟩)]) (fun w => by kernel_rfl) ?_
    have h := h.perm (show _ = Mk.omap b co * (pts tb (.cells [tv t].toArray 9 (0, 0)) * (pts cb (.cells [tv n].toArray 9 (0, 0)) * (pts p (.cells (gcells a b).toArray 94 (0, 0)) * (Mk.omap a (Mk.delM cl ⟨t, n⟩) * R)))) by (try unfold gI); ac_rfl)
    refine DelC_spec (pr := fun x => decide (x.t = t) && decide (x.c = n)) inv.nd h (fun x v X w K' h hk => DropF_spec (tb := tb) (cb := cb) h hk) fun co' w hsub hpr h => ?_
    try simp only [↓o_nil, ↓o_field, ↓o_add, ↓o_sub, ↓o_mul, ↓o_lss, ↓o_leq, ↓o_gtr, ↓o_geq, ↓o_not, ↓o_pick, ↓o_eqInt, ↓o_neInt, ↓o_eqBool, ↓o_neBool, ↓o_eqPtr, ↓o_nePtr, ↓o_eqPtr', ↓o_eqSl, ↓o_neSl, ↓o_eqStr, ↓o_neStr, ↓o_len, ↓o_lenS, ↓o_min, ↓o_max, ↓o_extract, ↓o_convInt, ↓cd_true, ↓cd_false, ↓gate_tt, ↓gate_ff, ↓gate_tf, ↓gate_ft, ↓gate_undef, ↓o_bind, ↓stay_v, ↓pop_cons, ↓fin_nil, Option.isNone_none, Option.isNone_some, Bool.not_true, Bool.not_false, Nat.zero_add, decide_true, decide_false, if_true, if_false, Bool.false_eq_true, ↓reduceIte]
    refine k _ _ _ w (inv_drop inv (k := ⟨t, n⟩) hsub fun x hx e => ?_) (h.perm (show _ = pts tb (.cells [tv t].toArray 9 (0, 0)) * (pts cb (.cells [tv n].toArray 9 (0, 0)) * gI p a b (Mk.delM cl ⟨t, n⟩) co' R) by (try unfold gI); ac_rfl)).drop.drop
    have h1 := hpr x hx
    simp only [K2.mk.injEq] at e
    simp [e.1, e.2] at h1
end
end Go.Proofs.YtmnaalpjhkkglaaDoor

/-
  Copies and comparisons.
-/
set_option linter.all false
set_option maxRecDepth 10000
namespace Go.Proofs.YtmnaalpjhkkglaaDoor
open Go Hold
variable {E : World0} {w : World} {H R : HP} {K : Value → World → Prop}

theorem Clone_spec (h : sat E w H) {v : Value} {l : List UInt8} (hr : Rds H v l.length (l.map bv)) (hl : l.length ≤ 140737488355328)
    (k : ∀ v' w', sat E w' (osl 5 1 v' l.length (l.map bv) * H) → K v' w') : Calls prog 28 #[v] w (Ret K) := by
  obtain ⟨a, c, rfl, hc, hr, ha⟩ := hr.shape h
  refine c28 ?_
  unfold B28
  simp only [↓o_nil, ↓o_field, ↓o_add, ↓o_sub, ↓o_mul, ↓o_lss, ↓o_leq, ↓o_gtr, ↓o_geq, ↓o_not, ↓o_pick, ↓o_eqInt, ↓o_neInt, ↓o_eqBool, ↓o_neBool, ↓o_eqPtr, ↓o_nePtr, ↓o_eqPtr', ↓o_eqSl, ↓o_neSl, ↓o_eqStr, ↓o_neStr, ↓o_len, ↓o_lenS, ↓o_min, ↓o_max, ↓o_extract, ↓o_convInt, ↓cd_true, ↓cd_false, ↓gate_tt, ↓gate_ff, ↓gate_tf, ↓gate_ft, ↓gate_undef, ↓o_bind, ↓stay_v, ↓pop_cons, ↓fin_nil, Option.isNone_none, Option.isNone_some, Bool.not_true, Bool.not_false, Nat.zero_add, decide_true, decide_false, if_true, if_false, Bool.false_eq_true, ↓reduceIte]
  cases a with
  | none =>
    have hn : l = [] := by simpa using ha rfl
    subst hn
    simp only [↓o_nil, ↓o_field, ↓o_add, ↓o_sub, ↓o_mul, ↓o_lss, ↓o_leq, ↓o_gtr, ↓o_geq, ↓o_not, ↓o_pick, ↓o_eqInt, ↓o_neInt, ↓o_eqBool, ↓o_neBool, ↓o_eqPtr, ↓o_nePtr, ↓o_eqPtr', ↓o_eqSl, ↓o_neSl, ↓o_eqStr, ↓o_neStr, ↓o_len, ↓o_lenS, ↓o_min, ↓o_max, ↓o_extract, ↓o_convInt, ↓cd_true, ↓cd_false, ↓gate_tt, ↓gate_ff, ↓gate_tf, ↓gate_ft, ↓gate_undef, ↓o_bind, ↓stay_v, ↓pop_cons, ↓fin_nil, Option.isNone_none, Option.isNone_some, Bool.not_true, Bool.not_false, Nat.zero_add, decide_true, decide_false, if_true, if_false, Bool.false_eq_true, ↓reduceIte]
    exact k _ _ (osl_nil h 5 1)
  | some a =>
    simp only [↓o_nil, ↓o_field, ↓o_add, ↓o_sub, ↓o_mul, ↓o_lss, ↓o_leq, ↓o_gtr, ↓o_geq, ↓o_not, ↓o_pick, ↓o_eqInt, ↓o_neInt, ↓o_eqBool, ↓o_neBool, ↓o_eqPtr, ↓o_nePtr, ↓o_eqPtr', ↓o_eqSl, ↓o_neSl, ↓o_eqStr, ↓o_neStr, ↓o_len, ↓o_lenS, ↓o_min, ↓o_max, ↓o_extract, ↓o_convInt, ↓cd_true, ↓cd_false, ↓gate_tt, ↓gate_ff, ↓gate_tf, ↓gate_ft, ↓gate_undef, ↓o_bind, ↓stay_v, ↓pop_cons, ↓fin_nil, Option.isNone_none, Option.isNone_some, Bool.not_true, Bool.not_false, Nat.zero_add, decide_true, decide_false, if_true, if_false, Bool.false_eq_true, ↓reduceIte]
    refine buildSlice_sl h (e := 5) (cs := #[]) (fun w => by kernel_rfl) ?_
    intro b w1 h1
    refine append_sl (osl_of (n := 0) (sz := 1) h1 rfl (by omega)) (l.map bv) (by simp) (hr.win h1.drop) (bv_one l) (by omega) (by omega) ?_
    intro v' w2 h2
    exact k _ _ (by simpa using h2)

end Go.Proofs.YtmnaalpjhkkglaaDoor

/-
  Bits turned.
-/
set_option linter.all false
set_option maxRecDepth 10000
namespace Go.Proofs.YtmnaalpjhkkglaaDoor
open Go Hold
variable {E : World0} {w : World} {H R : HP} {K : Value → World → Prop}
/-- Bits turned right. -/
def rotr (x : UInt32) (n : Nat) : UInt32 := (x <<< UInt32.ofNat (32 - n)) ||| (x >>> UInt32.ofNat n)
theorem Rot_spec (x : UInt32) {n : Nat} (h1 : 1 ≤ n) (h2 : n ≤ 31) (k : K (wv (rotr x n)) w) : Calls prog 44 #[wv x, .int .i64 (-(n : Int))] w (Ret K) := by
  refine c44 ?_
  unfold B44
  have e1 : IntKind.u64.wrap (-(n : Int)) = ((18446744073709551616 - n : Nat) : Int) := by rw [IntKind.wrap_u64]; omega
  simp only [↓o_nil, ↓o_field, ↓o_add, ↓o_sub, ↓o_mul, ↓o_lss, ↓o_leq, ↓o_gtr, ↓o_geq, ↓o_not, ↓o_pick, ↓o_eqInt, ↓o_neInt, ↓o_eqBool, ↓o_neBool, ↓o_eqPtr, ↓o_nePtr, ↓o_eqPtr', ↓o_eqSl, ↓o_neSl, ↓o_eqStr, ↓o_neStr, ↓o_len, ↓o_lenS, ↓o_min, ↓o_max, ↓o_extract, ↓o_convInt, ↓cd_true, ↓cd_false, ↓gate_tt, ↓gate_ff, ↓gate_tf, ↓gate_ft, ↓gate_undef, ↓o_bind, ↓stay_v, ↓pop_cons, ↓fin_nil, Option.isNone_none, Option.isNone_some, Bool.not_true, Bool.not_false, Nat.zero_add, decide_true, decide_false, if_true, if_false, Bool.false_eq_true, ↓reduceIte, e1]
  refine pvv_of (v := .int .u64 ((32 - n : Nat) : Int)) (fun _ => ?_) ?_
  · have key : ∀ n : Fin 32, 1 ≤ n.val → IntKind.u64.wrap (((BitVec.ofInt 64 ((18446744073709551616 - n.val : Nat) : Int)) &&& (BitVec.ofInt 64 31)).toNat : Int) = ((32 - n.val : Nat) : Int) := by decide +kernel
    have := key ⟨n, by omega⟩ h1
    simp only [binOp, Op.intBits, IntKind.bits]
    simp
    exact this
  rw [o_shlW (by omega)]
  have e2 : IntKind.u64.wrap (32 - ((32 - n : Nat) : Int)) = (n : Int) := by rw [IntKind.wrap_u64]; omega
  simp only [↓o_nil, ↓o_field, ↓o_add, ↓o_sub, ↓o_mul, ↓o_lss, ↓o_leq, ↓o_gtr, ↓o_geq, ↓o_not, ↓o_pick, ↓o_eqInt, ↓o_neInt, ↓o_eqBool, ↓o_neBool, ↓o_eqPtr, ↓o_nePtr, ↓o_eqPtr', ↓o_eqSl, ↓o_neSl, ↓o_eqStr, ↓o_neStr, ↓o_len, ↓o_lenS, ↓o_min, ↓o_max, ↓o_extract, ↓o_convInt, ↓cd_true, ↓cd_false, ↓gate_tt, ↓gate_ff, ↓gate_tf, ↓gate_ft, ↓gate_undef, ↓o_bind, ↓stay_v, ↓pop_cons, ↓fin_nil, Option.isNone_none, Option.isNone_some, Bool.not_true, Bool.not_false, Nat.zero_add, decide_true, decide_false, if_true, if_false, Bool.false_eq_true, ↓reduceIte, e2]
  rw [o_shrW (by omega), o_orW]
  exact k
end Go.Proofs.YtmnaalpjhkkglaaDoor

/-
  SHA-256, as the code reckons it.
-/
set_option linter.all false
set_option maxRecDepth 10000
namespace Go.Proofs.YtmnaalpjhkkglaaDoor
open Go Hold
def word (b : List UInt8) (i : Nat) : UInt32 :=
  (((b.getD (4 * i) 0).toUInt32 <<< UInt32.ofNat 24 ||| (b.getD (4 * i + 1) 0).toUInt32 <<< UInt32.ofNat 16) ||| (b.getD (4 * i + 2) 0).toUInt32 <<< UInt32.ofNat 8) ||| (b.getD (4 * i + 3) 0).toUInt32
def wNext (w : List UInt32) (i : Nat) : UInt32 :=
  w.getD (i - 16) 0 + ((rotr (w.getD (i - 15) 0) 7 ^^^ rotr (w.getD (i - 15) 0) 18) ^^^ w.getD (i - 15) 0 >>> UInt32.ofNat 3) + w.getD (i - 7) 0 + ((rotr (w.getD (i - 2) 0) 17 ^^^ rotr (w.getD (i - 2) 0) 19) ^^^ w.getD (i - 2) 0 >>> UInt32.ofNat 10)
def sched (b : List UInt8) : Nat → List UInt32
  | 0 => []
  | i + 1 => sched b i ++ [if i < 16 then word b i else wNext (sched b i) i]
theorem sched_length (b : List UInt8) : ∀ n, (sched b n).length = n
  | 0 => rfl
  | n + 1 => by simp [sched, sched_length b n]
structure St where
  (a b c d e f g h : UInt32)
def St.list (v : St) : List UInt32 := [v.a, v.b, v.c, v.d, v.e, v.f, v.g, v.h]
def big1 (e : UInt32) : UInt32 := (rotr e 6 ^^^ rotr e 11) ^^^ rotr e 25
def big0 (a : UInt32) : UInt32 := (rotr a 2 ^^^ rotr a 13) ^^^ rotr a 22
def tOf (k w : UInt32) (v : St) : UInt32 := v.h + big1 v.e + (v.g ^^^ (v.e &&& (v.f ^^^ v.g))) + k + w
def uOf (v : St) : UInt32 := big0 v.a + ((v.a &&& v.b) ||| (v.c &&& (v.a ||| v.b)))
def round (k w : UInt32) (v : St) : St := ⟨tOf k w v + uOf v, v.a, v.b, v.c, v.d + tOf k w v, v.e, v.f, v.g⟩
def rounds (ks ws : List UInt32) (v : St) : Nat → St
  | 0 => v
  | n + 1 => round (ks.getD n 0) (ws.getD n 0) (rounds ks ws v n)
def St.add (x y : St) : St := ⟨x.a + y.a, x.b + y.b, x.c + y.c, x.d + y.d, x.e + y.e, x.f + y.f, x.g + y.g, x.h + y.h⟩
def mix (ks : List UInt32) (st : St) (b : List UInt8) : St := st.add (rounds ks (sched b 64) st 64)
end Go.Proofs.YtmnaalpjhkkglaaDoor

/-
  mix: a block of 64 bytes, mixed into a hash.
-/
set_option linter.all false
set_option maxRecDepth 10000
namespace Go.Proofs.YtmnaalpjhkkglaaDoor
open Go Hold
variable {E : World0} {w : World} {H R : HP} {K : Value → World → Prop}
/-- The words of the block, the first sixteen. -/
theorem mix_early (h : sat E w H) {i : Nat} (hi : i < 64) (h16 : (i : Int) < 16) {b3 o bb c : Nat} {e : TypeId} {us : List UInt32} (hus : us.length = i) {b : List UInt8} (hb : Rds H (.slice (some ⟨bb, o, none⟩) b.length c) b.length (b.map bv)) (hbl : 64 ≤ b.length)
    [Own H b3 (.cells (us.map wv ++ List.replicate (64 - i) (wv 0)).toArray e (0, 0)) R] {k : List Value → World → Prop}
    (hk : ∀ w, sat E w (pts b3 (.cells ((us ++ [word b i]).map wv ++ List.replicate (64 - (i + 1)) (wv 0)).toArray e (0, 0)) * R) → k [] w) :
        dr w fun w =>
        pvv prog (binOp .mul 3 (.int .i64 4) (.int .i64 i)) w fun t_9 w =>
        pvv prog (Instr.indexAt 25 (.slice (some ⟨bb, o, none⟩) b.length c) t_9) w fun t_10 w =>
        pvv prog (binOp .mul 3 (.int .i64 4) (.int .i64 i)) w fun t_11 w =>
        pvv prog (binOp .add 3 t_11 (.int .i64 1)) w fun t_12 w =>
        pvv prog (Instr.indexAt 25 (.slice (some ⟨bb, o, none⟩) b.length c) t_12) w fun t_13 w =>
        pvv prog (binOp .mul 3 (.int .i64 4) (.int .i64 i)) w fun t_14 w =>
        pvv prog (binOp .add 3 t_14 (.int .i64 2)) w fun t_15 w =>
        pvv prog (Instr.indexAt 25 (.slice (some ⟨bb, o, none⟩) b.length c) t_15) w fun t_16 w =>
        pvv prog (binOp .mul 3 (.int .i64 4) (.int .i64 i)) w fun t_17 w =>
        pvv prog (binOp .add 3 t_17 (.int .i64 3)) w fun t_18 w =>
        pvv prog (Instr.indexAt 25 (.slice (some ⟨bb, o, none⟩) b.length c) t_18) w fun t_19 w =>
        bindS (vN (Instr.loadAt 5 t_10)) fun m_21 => ldv prog (Instr.loadAt 5 t_10) w fun t_20 w =>
        pvv prog (convert 5 77 t_20) w fun t_22 w =>
        pvv prog (binOp .shl 77 t_22 (.int .u64 24)) w fun t_23 w =>
        bindS (vN (Instr.loadAt 5 t_13)) fun m_25 => ldv prog (Instr.loadAt 5 t_13) w fun t_24 w =>
        pvv prog (convert 5 77 t_24) w fun t_26 w =>
        pvv prog (binOp .shl 77 t_26 (.int .u64 16)) w fun t_27 w =>
        pvv prog (binOp .or 77 t_23 t_27) w fun t_28 w =>
        bindS (vN (Instr.loadAt 5 t_16)) fun m_30 => ldv prog (Instr.loadAt 5 t_16) w fun t_29 w =>
        pvv prog (convert 5 77 t_29) w fun t_31 w =>
        pvv prog (binOp .shl 77 t_31 (.int .u64 8)) w fun t_32 w =>
        pvv prog (binOp .or 77 t_28 t_32) w fun t_33 w =>
        bindS (vN (Instr.loadAt 5 t_19)) fun m_35 => ldv prog (Instr.loadAt 5 t_19) w fun t_34 w =>
        pvv prog (convert 5 77 t_34) w fun t_36 w =>
        pvv prog (binOp .or 77 t_33 t_36) w fun t_37 w =>
        pvv prog (Instr.indexAt 117 (.pointer (some ⟨b3, 0, none⟩)) (.int .i64 i)) w fun t_38 w =>
        efu prog (Instr.storeAt 77 t_38 t_37) w fun u_39 w =>
        k [] w := by
  have e0 : IntKind.i64.wrap (4 * (i : Int)) = ((4 * i : Nat) : Int) := by rw [i64_of (by omega) (by omega)]; omega
  have e1 : IntKind.i64.wrap (((4 * i : Nat) : Int) + 1) = ((4 * i + 1 : Nat) : Int) := by rw [i64_of (by omega) (by omega)]; omega
  have e2 : IntKind.i64.wrap (((4 * i : Nat) : Int) + 2) = ((4 * i + 2 : Nat) : Int) := by rw [i64_of (by omega) (by omega)]; omega
  have e3 : IntKind.i64.wrap (((4 * i : Nat) : Int) + 3) = ((4 * i + 3 : Nat) : Int) := by rw [i64_of (by omega) (by omega)]; omega
  refine dr_sl h fun w h _ => ?_
  have ix : ∀ {j : Nat}, j < b.length → ∀ {w : World} {K : Value → World → Prop}, pvv prog (Instr.indexAt 25 (.slice (some ⟨bb, o, none⟩) b.length c) (.int .i64 (j : Int))) w K = K (.pointer (some ⟨bb, o + j, none⟩)) w := fun {j} hj {w K} => by
    rw [o_index (by omega) (by omega)]; simp
  simp only [e0, e1, e2, e3, ↓o_nil, ↓o_field, ↓o_add, ↓o_sub, ↓o_mul, ↓o_lss, ↓o_leq, ↓o_gtr, ↓o_geq, ↓o_not, ↓o_pick, ↓o_eqInt, ↓o_neInt, ↓o_eqBool, ↓o_neBool, ↓o_eqPtr, ↓o_nePtr, ↓o_eqPtr', ↓o_eqSl, ↓o_neSl, ↓o_eqStr, ↓o_neStr, ↓o_len, ↓o_lenS, ↓o_min, ↓o_max, ↓o_extract, ↓o_convInt, ↓cd_true, ↓cd_false, ↓gate_tt, ↓gate_ff, ↓gate_tf, ↓gate_ft, ↓gate_undef, ↓o_bind, ↓stay_v, ↓pop_cons, ↓fin_nil, Option.isNone_none, Option.isNone_some, Bool.not_true, Bool.not_false, Nat.zero_add, decide_true, decide_false, if_true, if_false, Bool.false_eq_true, ↓reduceIte, ix (j := 4 * i) (by omega), ix (j := 4 * i + 1) (by omega), ix (j := 4 * i + 2) (by omega), ix (j := 4 * i + 3) (by omega)]
  refine ld_rd h hb _ rfl (getbv (by omega)) ?_
  rw [o_convBW, o_shlW' (by decide) (by decide)]
  refine ld_rd h hb _ rfl (getbv (by omega)) ?_
  rw [o_convBW, o_shlW' (by decide) (by decide), o_orW]
  refine ld_rd h hb _ rfl (getbv (by omega)) ?_
  rw [o_convBW, o_shlW' (by decide) (by decide), o_orW]
  refine ld_rd h hb _ rfl (getbv (by omega)) ?_
  rw [o_convBW, o_orW, o_indexA (by omega) (by omega)]
  refine store_sl (o := 0 + i) h rfl (by simp [hus]; omega) fun w h => ?_
  refine hk _ ?_
  have : (us.map wv ++ List.replicate (64 - i) (wv 0)).set (0 + i) (wv (word b i)) = (us ++ [word b i]).map wv ++ List.replicate (64 - (i + 1)) (wv 0) := by
    rw [Nat.zero_add, set_fill (by simpa using hus) (by omega)]; simp
  rw [← this]
  exact h
end Go.Proofs.YtmnaalpjhkkglaaDoor

/-
  mix: the block's further words.
-/
set_option linter.all false
set_option maxRecDepth 10000
namespace Go.Proofs.YtmnaalpjhkkglaaDoor
open Go Hold
variable {E : World0} {w : World} {H R : HP} {K : Value → World → Prop}
theorem mix_late (h : sat E w H) {i : Nat} (hi : i < 64) (h16 : ¬ (i : Int) < 16) {b3 : Nat} {e : TypeId} {us : List UInt32} (hus : us.length = i)
    [own : Own H b3 (.cells (us.map wv ++ List.replicate (64 - i) (wv 0)).toArray e (0, 0)) R] {k : List Value → World → Prop}
    (hk : ∀ w, sat E w (pts b3 (.cells ((us ++ [wNext us i]).map wv ++ List.replicate (64 - (i + 1)) (wv 0)).toArray e (0, 0)) * R) → k [] w) :
      dr w fun w =>
      pvv prog (binOp .sub 3 (.int .i64 i) (.int .i64 15)) w fun t_41 w =>
      pvv prog (Instr.indexAt 117 (.pointer (some ⟨b3, 0, none⟩)) t_41) w fun t_42 w =>
      pvv prog (binOp .sub 3 (.int .i64 i) (.int .i64 15)) w fun t_43 w =>
      pvv prog (Instr.indexAt 117 (.pointer (some ⟨b3, 0, none⟩)) t_43) w fun t_44 w =>
      pvv prog (binOp .sub 3 (.int .i64 i) (.int .i64 15)) w fun t_45 w =>
      pvv prog (Instr.indexAt 117 (.pointer (some ⟨b3, 0, none⟩)) t_45) w fun t_46 w =>
      bindS (vN (Instr.loadAt 77 t_42)) fun m_48 => ldv prog (Instr.loadAt 77 t_42) w fun t_47 w =>
      bindS (vN (Instr.loadAt 77 t_44)) fun m_50 => ldv prog (Instr.loadAt 77 t_44) w fun t_49 w =>
      bindS (vN (Instr.loadAt 77 t_46)) fun m_52 => ldv prog (Instr.loadAt 77 t_46) w fun t_51 w =>
      pvv prog (binOp .shr 77 t_51 (.int .u64 3)) w fun t_53 w =>
      Calls prog 44 #[t_47, (.int .i64 (-7))] w (Ret fun t_54 w => stay prog none m_52 t_51 w <| stay prog none m_50 t_49 w <| 
      Calls prog 44 #[t_49, (.int .i64 (-18))] w (Ret fun t_55 w => stay prog none m_52 t_51 w <| stay prog none m_48 t_47 w <| 
      pvv prog (binOp .xor 77 t_54 t_55) w fun t_56 w =>
      pvv prog (binOp .xor 77 t_56 t_53) w fun t_57 w =>
      dr w fun w =>
      pvv prog (binOp .sub 3 (.int .i64 i) (.int .i64 2)) w fun t_58 w =>
      pvv prog (Instr.indexAt 117 (.pointer (some ⟨b3, 0, none⟩)) t_58) w fun t_59 w =>
      pvv prog (binOp .sub 3 (.int .i64 i) (.int .i64 2)) w fun t_60 w =>
      pvv prog (Instr.indexAt 117 (.pointer (some ⟨b3, 0, none⟩)) t_60) w fun t_61 w =>
      pvv prog (binOp .sub 3 (.int .i64 i) (.int .i64 2)) w fun t_62 w =>
      pvv prog (Instr.indexAt 117 (.pointer (some ⟨b3, 0, none⟩)) t_62) w fun t_63 w =>
      bindS (vN (Instr.loadAt 77 t_59)) fun m_65 => ldv prog (Instr.loadAt 77 t_59) w fun t_64 w =>
      bindS (vN (Instr.loadAt 77 t_61)) fun m_67 => ldv prog (Instr.loadAt 77 t_61) w fun t_66 w =>
      bindS (vN (Instr.loadAt 77 t_63)) fun m_69 => ldv prog (Instr.loadAt 77 t_63) w fun t_68 w =>
      pvv prog (binOp .shr 77 t_68 (.int .u64 10)) w fun t_70 w =>
      Calls prog 44 #[t_64, (.int .i64 (-17))] w (Ret fun t_71 w => stay prog none m_69 t_68 w <| stay prog none m_67 t_66 w <| 
      Calls prog 44 #[t_66, (.int .i64 (-19))] w (Ret fun t_72 w => stay prog none m_69 t_68 w <| stay prog none m_65 t_64 w <| 
      pvv prog (binOp .xor 77 t_71 t_72) w fun t_73 w =>
      pvv prog (binOp .xor 77 t_73 t_70) w fun t_74 w =>
      dr w fun w =>
      pvv prog (binOp .sub 3 (.int .i64 i) (.int .i64 16)) w fun t_75 w =>
      pvv prog (Instr.indexAt 117 (.pointer (some ⟨b3, 0, none⟩)) t_75) w fun t_76 w =>
      pvv prog (binOp .sub 3 (.int .i64 i) (.int .i64 7)) w fun t_77 w =>
      pvv prog (Instr.indexAt 117 (.pointer (some ⟨b3, 0, none⟩)) t_77) w fun t_78 w =>
      bindS (vN (Instr.loadAt 77 t_76)) fun m_80 => ldv prog (Instr.loadAt 77 t_76) w fun t_79 w =>
      pvv prog (binOp .add 77 t_79 t_57) w fun t_81 w =>
      bindS (vN (Instr.loadAt 77 t_78)) fun m_83 => ldv prog (Instr.loadAt 77 t_78) w fun t_82 w =>
      pvv prog (binOp .add 77 t_81 t_82) w fun t_84 w =>
      pvv prog (binOp .add 77 t_84 t_74) w fun t_85 w =>
      pvv prog (Instr.indexAt 117 (.pointer (some ⟨b3, 0, none⟩)) (.int .i64 i)) w fun t_86 w =>
      efu prog (Instr.storeAt 77 t_86 t_85) w fun u_87 w =>
      k [] w)))) := by
  have e15 : IntKind.i64.wrap ((i : Int) - 15) = ((i - 15 : Nat) : Int) := by rw [i64_of (by omega) (by omega)]; omega
  have e2 : IntKind.i64.wrap ((i : Int) - 2) = ((i - 2 : Nat) : Int) := by rw [i64_of (by omega) (by omega)]; omega
  have e16 : IntKind.i64.wrap ((i : Int) - 16) = ((i - 16 : Nat) : Int) := by rw [i64_of (by omega) (by omega)]; omega
  have e7 : IntKind.i64.wrap ((i : Int) - 7) = ((i - 7 : Nat) : Int) := by rw [i64_of (by omega) (by omega)]; omega
  have ix : ∀ {j : Nat}, j < 64 → ∀ {w : World} {K : Value → World → Prop}, pvv prog (Instr.indexAt 117 (.pointer (some ⟨b3, 0, none⟩)) (.int .i64 (j : Int))) w K = K (.pointer (some ⟨b3, j, none⟩)) w := fun {j} hj {w K} => by
    rw [o_indexA (by omega) (by omega)]; simp
  have h := h.own b3
  have gw : ∀ {j : Nat}, j < i → (us.map wv ++ List.replicate (64 - i) (wv 0))[j]? = some (wv (us.getD j 0)) := fun hj => getwv (by omega)
  refine dr_sl h fun w h _ => ?_
  simp only [e15, ↓o_nil, ↓o_field, ↓o_add, ↓o_sub, ↓o_mul, ↓o_lss, ↓o_leq, ↓o_gtr, ↓o_geq, ↓o_not, ↓o_pick, ↓o_eqInt, ↓o_neInt, ↓o_eqBool, ↓o_neBool, ↓o_eqPtr, ↓o_nePtr, ↓o_eqPtr', ↓o_eqSl, ↓o_neSl, ↓o_eqStr, ↓o_neStr, ↓o_len, ↓o_lenS, ↓o_min, ↓o_max, ↓o_extract, ↓o_convInt, ↓cd_true, ↓cd_false, ↓gate_tt, ↓gate_ff, ↓gate_tf, ↓gate_ft, ↓gate_undef, ↓o_bind, ↓stay_v, ↓pop_cons, ↓fin_nil, Option.isNone_none, Option.isNone_some, Bool.not_true, Bool.not_false, Nat.zero_add, decide_true, decide_false, if_true, if_false, Bool.false_eq_true, ↓reduceIte, ix (j := i - 15) (by omega)]
  refine ld_in h (gw (by omega)) (ld_in h (gw (by omega)) (ld_in h (gw (by omega)) ?_))
  rw [o_shrW' (by decide) (by decide)]
  refine Rot_spec _ (n := 7) (by decide) (by decide) ?_
  try simp only [stay_v]
  refine st_in h (gw (by omega)) (st_in h (gw (by omega)) ?_)
  refine Rot_spec _ (n := 18) (by decide) (by decide) ?_
  try simp only [stay_v]
  refine st_in h (gw (by omega)) (st_in h (gw (by omega)) ?_)
  rw [o_xorW, o_xorW]
  refine dr_sl h fun w h _ => ?_
  simp only [e2, ↓o_nil, ↓o_field, ↓o_add, ↓o_sub, ↓o_mul, ↓o_lss, ↓o_leq, ↓o_gtr, ↓o_geq, ↓o_not, ↓o_pick, ↓o_eqInt, ↓o_neInt, ↓o_eqBool, ↓o_neBool, ↓o_eqPtr, ↓o_nePtr, ↓o_eqPtr', ↓o_eqSl, ↓o_neSl, ↓o_eqStr, ↓o_neStr, ↓o_len, ↓o_lenS, ↓o_min, ↓o_max, ↓o_extract, ↓o_convInt, ↓cd_true, ↓cd_false, ↓gate_tt, ↓gate_ff, ↓gate_tf, ↓gate_ft, ↓gate_undef, ↓o_bind, ↓stay_v, ↓pop_cons, ↓fin_nil, Option.isNone_none, Option.isNone_some, Bool.not_true, Bool.not_false, Nat.zero_add, decide_true, decide_false, if_true, if_false, Bool.false_eq_true, ↓reduceIte, ix (j := i - 2) (by omega)]
  refine ld_in h (gw (by omega)) (ld_in h (gw (by omega)) (ld_in h (gw (by omega)) ?_))
  rw [o_shrW' (by decide) (by decide)]
  refine Rot_spec _ (n := 17) (by decide) (by decide) ?_
  try simp only [stay_v]
  refine st_in h (gw (by omega)) (st_in h (gw (by omega)) ?_)
  refine Rot_spec _ (n := 19) (by decide) (by decide) ?_
  try simp only [stay_v]
  refine st_in h (gw (by omega)) (st_in h (gw (by omega)) ?_)
  rw [o_xorW, o_xorW]
  refine dr_sl h fun w h _ => ?_
  simp only [e16, e7, ↓o_nil, ↓o_field, ↓o_add, ↓o_sub, ↓o_mul, ↓o_lss, ↓o_leq, ↓o_gtr, ↓o_geq, ↓o_not, ↓o_pick, ↓o_eqInt, ↓o_neInt, ↓o_eqBool, ↓o_neBool, ↓o_eqPtr, ↓o_nePtr, ↓o_eqPtr', ↓o_eqSl, ↓o_neSl, ↓o_eqStr, ↓o_neStr, ↓o_len, ↓o_lenS, ↓o_min, ↓o_max, ↓o_extract, ↓o_convInt, ↓cd_true, ↓cd_false, ↓gate_tt, ↓gate_ff, ↓gate_tf, ↓gate_ft, ↓gate_undef, ↓o_bind, ↓stay_v, ↓pop_cons, ↓fin_nil, Option.isNone_none, Option.isNone_some, Bool.not_true, Bool.not_false, Nat.zero_add, decide_true, decide_false, if_true, if_false, Bool.false_eq_true, ↓reduceIte, ix (j := i - 16) (by omega), ix (j := i - 7) (by omega)]
  refine ld_in h (gw (by omega)) ?_
  rw [o_addW]
  refine ld_in h (gw (by omega)) ?_
  rw [o_addW, o_addW, ix hi]
  refine store_sl h rfl (by simp [hus]; omega) fun w h => ?_
  refine hk _ ?_
  rw [set_fill (by simpa using hus) (by omega)] at h
  have e : us.map wv ++ [wv (wNext us i)] = (us ++ [wNext us i]).map wv := by simp
  rw [← e]
  exact h
end Go.Proofs.YtmnaalpjhkkglaaDoor

/-
  mix: one round.
-/
set_option linter.all false
set_option maxRecDepth 10000
namespace Go.Proofs.YtmnaalpjhkkglaaDoor
open Go Hold
variable {E : World0} {w : World} {H R : HP} {K : Value → World → Prop}
theorem mix_round (h : sat E w H) {i : Nat} (hi : i < 64) {b3 bk bq : Nat} {e1 e2 e3 : TypeId} {fr1 fr2 : Nat × Nat} {ks ws : List UInt32} (hks : ks.length = 64) (hws : ws.length = 64) {v : St}
    [own : Own H bq (.cells (v.list.map wv).toArray e3 (0, 0)) R] [hb3 : Has R b3 (.cells (ws.map wv).toArray e1 fr1)] [hbk : Has R bk (.cells (ks.map wv).toArray e2 fr2)] {k : List Value → World → Prop}
    (hk : ∀ w, sat E w (pts bq (.cells ((round (ks.getD i 0) (ws.getD i 0) v).list.map wv).toArray e3 (0, 0)) * R) → k [.int .i64 ((i + 1 : Nat) : Int)] w) :
        dr w fun w =>
        pvv prog (Instr.indexAt 79 (.pointer (some ⟨bq, 0, none⟩)) (.int .i64 4)) w fun t_99 w =>
        pvv prog (Instr.indexAt 79 (.pointer (some ⟨bq, 0, none⟩)) (.int .i64 4)) w fun t_100 w =>
        pvv prog (Instr.indexAt 79 (.pointer (some ⟨bq, 0, none⟩)) (.int .i64 4)) w fun t_101 w =>
        bindS (vN (Instr.loadAt 77 t_99)) fun m_103 => ldv prog (Instr.loadAt 77 t_99) w fun t_102 w =>
        bindS (vN (Instr.loadAt 77 t_100)) fun m_105 => ldv prog (Instr.loadAt 77 t_100) w fun t_104 w =>
        bindS (vN (Instr.loadAt 77 t_101)) fun m_107 => ldv prog (Instr.loadAt 77 t_101) w fun t_106 w =>
        Calls prog 44 #[t_102, (.int .i64 (-6))] w (Ret fun t_108 w => stay prog none m_107 t_106 w <| stay prog none m_105 t_104 w <| 
        Calls prog 44 #[t_104, (.int .i64 (-11))] w (Ret fun t_109 w => stay prog none m_107 t_106 w <| stay prog none m_103 t_102 w <| 
        pvv prog (binOp .xor 77 t_108 t_109) w fun t_110 w =>
        Calls prog 44 #[t_106, (.int .i64 (-25))] w (Ret fun t_111 w => stay prog none m_105 t_104 w <| stay prog none m_103 t_102 w <| 
        pvv prog (binOp .xor 77 t_110 t_111) w fun t_112 w =>
        dr w fun w =>
        pvv prog (Instr.indexAt 79 (.pointer (some ⟨bq, 0, none⟩)) (.int .i64 7)) w fun t_113 w =>
        pvv prog (Instr.indexAt 79 (.pointer (some ⟨bq, 0, none⟩)) (.int .i64 6)) w fun t_114 w =>
        pvv prog (Instr.indexAt 79 (.pointer (some ⟨bq, 0, none⟩)) (.int .i64 4)) w fun t_115 w =>
        pvv prog (Instr.indexAt 79 (.pointer (some ⟨bq, 0, none⟩)) (.int .i64 5)) w fun t_116 w =>
        pvv prog (Instr.indexAt 79 (.pointer (some ⟨bq, 0, none⟩)) (.int .i64 6)) w fun t_117 w =>
        pv prog (oNil (.pointer (some ⟨bk, 0, none⟩))) w fun t_118 w =>
        pvv prog (Instr.indexAt 117 t_118 (.int .i64 i)) w fun t_119 w =>
        pvv prog (Instr.indexAt 117 (.pointer (some ⟨b3, 0, none⟩)) (.int .i64 i)) w fun t_120 w =>
        bindS (vN (Instr.loadAt 77 t_113)) fun m_122 => ldv prog (Instr.loadAt 77 t_113) w fun t_121 w =>
        pvv prog (binOp .add 77 t_121 t_112) w fun t_123 w =>
        bindS (vN (Instr.loadAt 77 t_114)) fun m_125 => ldv prog (Instr.loadAt 77 t_114) w fun t_124 w =>
        bindS (vN (Instr.loadAt 77 t_115)) fun m_127 => ldv prog (Instr.loadAt 77 t_115) w fun t_126 w =>
        bindS (vN (Instr.loadAt 77 t_116)) fun m_129 => ldv prog (Instr.loadAt 77 t_116) w fun t_128 w =>
        bindS (vN (Instr.loadAt 77 t_117)) fun m_131 => ldv prog (Instr.loadAt 77 t_117) w fun t_130 w =>
        pvv prog (binOp .xor 77 t_128 t_130) w fun t_132 w =>
        pvv prog (binOp .and 77 t_126 t_132) w fun t_133 w =>
        pvv prog (binOp .xor 77 t_124 t_133) w fun t_134 w =>
        pvv prog (binOp .add 77 t_123 t_134) w fun t_135 w =>
        bindS (vN (Instr.loadAt 77 t_119)) fun m_137 => ldv prog (Instr.loadAt 77 t_119) w fun t_136 w =>
        pvv prog (binOp .add 77 t_135 t_136) w fun t_138 w =>
        bindS (vN (Instr.loadAt 77 t_120)) fun m_140 => ldv prog (Instr.loadAt 77 t_120) w fun t_139 w =>
        pvv prog (binOp .add 77 t_138 t_139) w fun t_141 w =>
        dr w fun w =>
        pvv prog (Instr.indexAt 79 (.pointer (some ⟨bq, 0, none⟩)) (.int .i64 0)) w fun t_142 w =>
        pvv prog (Instr.indexAt 79 (.pointer (some ⟨bq, 0, none⟩)) (.int .i64 0)) w fun t_143 w =>
        pvv prog (Instr.indexAt 79 (.pointer (some ⟨bq, 0, none⟩)) (.int .i64 0)) w fun t_144 w =>
        bindS (vN (Instr.loadAt 77 t_142)) fun m_146 => ldv prog (Instr.loadAt 77 t_142) w fun t_145 w =>
        bindS (vN (Instr.loadAt 77 t_143)) fun m_148 => ldv prog (Instr.loadAt 77 t_143) w fun t_147 w =>
        bindS (vN (Instr.loadAt 77 t_144)) fun m_150 => ldv prog (Instr.loadAt 77 t_144) w fun t_149 w =>
        Calls prog 44 #[t_145, (.int .i64 (-2))] w (Ret fun t_151 w => stay prog none m_150 t_149 w <| stay prog none m_148 t_147 w <| 
        Calls prog 44 #[t_147, (.int .i64 (-13))] w (Ret fun t_152 w => stay prog none m_150 t_149 w <| stay prog none m_146 t_145 w <| 
        pvv prog (binOp .xor 77 t_151 t_152) w fun t_153 w =>
        Calls prog 44 #[t_149, (.int .i64 (-22))] w (Ret fun t_154 w => stay prog none m_148 t_147 w <| stay prog none m_146 t_145 w <| 
        pvv prog (binOp .xor 77 t_153 t_154) w fun t_155 w =>
        pvv prog (Instr.indexAt 79 (.pointer (some ⟨bq, 0, none⟩)) (.int .i64 0)) w fun t_156 w =>
        ldv prog (Instr.loadAt 77 t_156) w fun t_157 w =>
        pvv prog (Instr.indexAt 79 (.pointer (some ⟨bq, 0, none⟩)) (.int .i64 1)) w fun t_158 w =>
        ldv prog (Instr.loadAt 77 t_158) w fun t_159 w =>
        pvv prog (binOp .and 77 t_157 t_159) w fun t_160 w =>
        pvv prog (Instr.indexAt 79 (.pointer (some ⟨bq, 0, none⟩)) (.int .i64 2)) w fun t_161 w =>
        ldv prog (Instr.loadAt 77 t_161) w fun t_162 w =>
        pvv prog (Instr.indexAt 79 (.pointer (some ⟨bq, 0, none⟩)) (.int .i64 0)) w fun t_163 w =>
        ldv prog (Instr.loadAt 77 t_163) w fun t_164 w =>
        pvv prog (Instr.indexAt 79 (.pointer (some ⟨bq, 0, none⟩)) (.int .i64 1)) w fun t_165 w =>
        ldv prog (Instr.loadAt 77 t_165) w fun t_166 w =>
        pvv prog (binOp .or 77 t_164 t_166) w fun t_167 w =>
        pvv prog (binOp .and 77 t_162 t_167) w fun t_168 w =>
        pvv prog (binOp .or 77 t_160 t_168) w fun t_169 w =>
        pvv prog (binOp .add 77 t_155 t_169) w fun t_170 w =>
        dr w fun w =>
        pvv prog (Instr.sliceAt 79 (.pointer (some ⟨bq, 0, none⟩)) (some (.int .i64 1)) none none) w fun t_171 w =>
        pvv prog (Instr.sliceAt 79 (.pointer (some ⟨bq, 0, none⟩)) none (some (.int .i64 7)) none) w fun t_172 w =>
        ef prog (oBi .copy #[119, 119] 3 #[false, false] #[t_171, t_172]) w fun t_173 w =>
        pvv prog (Instr.indexAt 79 (.pointer (some ⟨bq, 0, none⟩)) (.int .i64 4)) w fun t_174 w =>
        ldv prog (Instr.loadAt 77 t_174) w fun t_175 w =>
        pvv prog (binOp .add 77 t_175 t_141) w fun t_176 w =>
        pvv prog (Instr.indexAt 79 (.pointer (some ⟨bq, 0, none⟩)) (.int .i64 4)) w fun t_177 w =>
        efu prog (Instr.storeAt 77 t_177 t_176) w fun u_178 w =>
        pvv prog (binOp .add 77 t_141 t_170) w fun t_179 w =>
        pvv prog (Instr.indexAt 79 (.pointer (some ⟨bq, 0, none⟩)) (.int .i64 0)) w fun t_180 w =>
        efu prog (Instr.storeAt 77 t_180 t_179) w fun u_181 w =>
        pvv prog (binOp .add 3 (.int .i64 i) (.int .i64 1)) w fun t_182 w =>
        k [t_182] w)))))) := by
  have ix : ∀ {j : Nat}, j < 64 → ∀ {b : Nat} {w : World} {K : Value → World → Prop}, pvv prog (Instr.indexAt 117 (.pointer (some ⟨b, 0, none⟩)) (.int .i64 (j : Int))) w K = K (.pointer (some ⟨b, j, none⟩)) w := fun {j} hj {b w K} => by
    rw [o_indexA (by omega) (by omega)]; simp
  have i0 : ∀ {w : World} {K : Value → World → Prop}, pvv prog (Instr.indexAt 79 (.pointer (some ⟨bq, 0, none⟩)) (.int .i64 0)) w K = K (.pointer (some ⟨bq, 0, none⟩)) w := o_indexA (by decide) (by decide)
  have i1 : ∀ {w : World} {K : Value → World → Prop}, pvv prog (Instr.indexAt 79 (.pointer (some ⟨bq, 0, none⟩)) (.int .i64 1)) w K = K (.pointer (some ⟨bq, 1, none⟩)) w := o_indexA (by decide) (by decide)
  have i2 : ∀ {w : World} {K : Value → World → Prop}, pvv prog (Instr.indexAt 79 (.pointer (some ⟨bq, 0, none⟩)) (.int .i64 2)) w K = K (.pointer (some ⟨bq, 2, none⟩)) w := o_indexA (by decide) (by decide)
  have i4 : ∀ {w : World} {K : Value → World → Prop}, pvv prog (Instr.indexAt 79 (.pointer (some ⟨bq, 0, none⟩)) (.int .i64 4)) w K = K (.pointer (some ⟨bq, 4, none⟩)) w := o_indexA (by decide) (by decide)
  have i5 : ∀ {w : World} {K : Value → World → Prop}, pvv prog (Instr.indexAt 79 (.pointer (some ⟨bq, 0, none⟩)) (.int .i64 5)) w K = K (.pointer (some ⟨bq, 5, none⟩)) w := o_indexA (by decide) (by decide)
  have i6 : ∀ {w : World} {K : Value → World → Prop}, pvv prog (Instr.indexAt 79 (.pointer (some ⟨bq, 0, none⟩)) (.int .i64 6)) w K = K (.pointer (some ⟨bq, 6, none⟩)) w := o_indexA (by decide) (by decide)
  have i7 : ∀ {w : World} {K : Value → World → Prop}, pvv prog (Instr.indexAt 79 (.pointer (some ⟨bq, 0, none⟩)) (.int .i64 7)) w K = K (.pointer (some ⟨bq, 7, none⟩)) w := o_indexA (by decide) (by decide)
  have h : sat E w (pts bq (.cells [wv v.a, wv v.b, wv v.c, wv v.d, wv v.e, wv v.f, wv v.g, wv v.h].toArray e3 (0, 0)) * R) := h.own bq
  refine dr_sl h fun w h _ => ?_
  simp only [↓o_nil, ↓o_field, ↓o_add, ↓o_sub, ↓o_mul, ↓o_lss, ↓o_leq, ↓o_gtr, ↓o_geq, ↓o_not, ↓o_pick, ↓o_eqInt, ↓o_neInt, ↓o_eqBool, ↓o_neBool, ↓o_eqPtr, ↓o_nePtr, ↓o_eqPtr', ↓o_eqSl, ↓o_neSl, ↓o_eqStr, ↓o_neStr, ↓o_len, ↓o_lenS, ↓o_min, ↓o_max, ↓o_extract, ↓o_convInt, ↓cd_true, ↓cd_false, ↓gate_tt, ↓gate_ff, ↓gate_tf, ↓gate_ft, ↓gate_undef, ↓o_bind, ↓stay_v, ↓pop_cons, ↓fin_nil, Option.isNone_none, Option.isNone_some, Bool.not_true, Bool.not_false, Nat.zero_add, decide_true, decide_false, if_true, if_false, Bool.false_eq_true, ↓reduceIte, i4]
  refine ld_at h (ld_at h (ld_at h ?_))
  refine Rot_spec _ (n := 6) (by decide) (by decide) ?_
  try simp only [stay_v]
  refine st_at h (st_at h ?_)
  refine Rot_spec _ (n := 11) (by decide) (by decide) ?_
  try simp only [stay_v]
  refine st_at h (st_at h ?_)
  rw [o_xorW]
  refine Rot_spec _ (n := 25) (by decide) (by decide) ?_
  try simp only [stay_v]
  refine st_at h (st_at h ?_)
  rw [o_xorW]
  refine dr_sl h fun w h _ => ?_
  simp only [↓o_nil, ↓o_field, ↓o_add, ↓o_sub, ↓o_mul, ↓o_lss, ↓o_leq, ↓o_gtr, ↓o_geq, ↓o_not, ↓o_pick, ↓o_eqInt, ↓o_neInt, ↓o_eqBool, ↓o_neBool, ↓o_eqPtr, ↓o_nePtr, ↓o_eqPtr', ↓o_eqSl, ↓o_neSl, ↓o_eqStr, ↓o_neStr, ↓o_len, ↓o_lenS, ↓o_min, ↓o_max, ↓o_extract, ↓o_convInt, ↓cd_true, ↓cd_false, ↓gate_tt, ↓gate_ff, ↓gate_tf, ↓gate_ft, ↓gate_undef, ↓o_bind, ↓stay_v, ↓pop_cons, ↓fin_nil, Option.isNone_none, Option.isNone_some, Bool.not_true, Bool.not_false, Nat.zero_add, decide_true, decide_false, if_true, if_false, Bool.false_eq_true, ↓reduceIte, i0, i1, i2, i4, i5, i6, i7, ix hi]
  refine ld_at h ?_
  rw [o_addW]
  refine ld_at h (ld_at h (ld_at h (ld_at h ?_)))
  rw [o_xorW, o_andW, o_xorW, o_addW]
  refine ld_in (b := bk) h (getwv' (by omega)) ?_
  rw [o_addW]
  refine ld_in (b := b3) h (getwv' (by omega)) ?_
  rw [o_addW]
  refine dr_sl h fun w h _ => ?_
  try simp only [↓o_nil, ↓o_field, ↓o_add, ↓o_sub, ↓o_mul, ↓o_lss, ↓o_leq, ↓o_gtr, ↓o_geq, ↓o_not, ↓o_pick, ↓o_eqInt, ↓o_neInt, ↓o_eqBool, ↓o_neBool, ↓o_eqPtr, ↓o_nePtr, ↓o_eqPtr', ↓o_eqSl, ↓o_neSl, ↓o_eqStr, ↓o_neStr, ↓o_len, ↓o_lenS, ↓o_min, ↓o_max, ↓o_extract, ↓o_convInt, ↓cd_true, ↓cd_false, ↓gate_tt, ↓gate_ff, ↓gate_tf, ↓gate_ft, ↓gate_undef, ↓o_bind, ↓stay_v, ↓pop_cons, ↓fin_nil, Option.isNone_none, Option.isNone_some, Bool.not_true, Bool.not_false, Nat.zero_add, decide_true, decide_false, if_true, if_false, Bool.false_eq_true, ↓reduceIte, i0, i1, i2, i4, i5, i6, i7]
  refine ld_at h (ld_at h (ld_at h ?_))
  refine Rot_spec _ (n := 2) (by decide) (by decide) ?_
  try simp only [stay_v]
  refine st_at h (st_at h ?_)
  refine Rot_spec _ (n := 13) (by decide) (by decide) ?_
  try simp only [stay_v]
  refine st_at h (st_at h ?_)
  rw [o_xorW]
  refine Rot_spec _ (n := 22) (by decide) (by decide) ?_
  try simp only [stay_v]
  refine st_at h (st_at h ?_)
  rw [o_xorW]
  try simp only [↓o_nil, ↓o_field, ↓o_add, ↓o_sub, ↓o_mul, ↓o_lss, ↓o_leq, ↓o_gtr, ↓o_geq, ↓o_not, ↓o_pick, ↓o_eqInt, ↓o_neInt, ↓o_eqBool, ↓o_neBool, ↓o_eqPtr, ↓o_nePtr, ↓o_eqPtr', ↓o_eqSl, ↓o_neSl, ↓o_eqStr, ↓o_neStr, ↓o_len, ↓o_lenS, ↓o_min, ↓o_max, ↓o_extract, ↓o_convInt, ↓cd_true, ↓cd_false, ↓gate_tt, ↓gate_ff, ↓gate_tf, ↓gate_ft, ↓gate_undef, ↓o_bind, ↓stay_v, ↓pop_cons, ↓fin_nil, Option.isNone_none, Option.isNone_some, Bool.not_true, Bool.not_false, Nat.zero_add, decide_true, decide_false, if_true, if_false, Bool.false_eq_true, ↓reduceIte, i0, i1, i2, i4, i5, i6, i7]
  refine ld_at h ?_
  refine ld_at h ?_
  rw [o_andW]
  refine ld_at h (ld_at h (ld_at h ?_))
  rw [o_orW, o_andW, o_orW, o_addW]
  refine dr_sl h fun w h _ => ?_
  rw [o_sliceA_l (by decide) (by decide), o_sliceA_h (by decide) (by decide)]
  refine copy_in (b := bq) (k' := 7) h (news := [wv v.a, wv v.b, wv v.c, wv v.d, wv v.e, wv v.f, wv v.g]) rfl (.inr ⟨bq, 0, _, _, _, rfl, Has.get h, fun j u hj => ?_⟩) (by simp [wv, Value.oneCell']) (by simp) fun w h => ?_
  · have := (List.getElem?_eq_some_iff.1 hj).1
    have hj7 : j < 7 := this
    rw [Nat.zero_add]
    match j, hj7 with
    | 0, _ => exact hj
    | 1, _ => exact hj
    | 2, _ => exact hj
    | 3, _ => exact hj
    | 4, _ => exact hj
    | 5, _ => exact hj
    | 6, _ => exact hj
  have h : sat E w (pts bq (.cells [wv v.a, wv v.a, wv v.b, wv v.c, wv v.d, wv v.e, wv v.f, wv v.g].toArray e3 (0, 0)) * R) := h
  try simp only [↓o_nil, ↓o_field, ↓o_add, ↓o_sub, ↓o_mul, ↓o_lss, ↓o_leq, ↓o_gtr, ↓o_geq, ↓o_not, ↓o_pick, ↓o_eqInt, ↓o_neInt, ↓o_eqBool, ↓o_neBool, ↓o_eqPtr, ↓o_nePtr, ↓o_eqPtr', ↓o_eqSl, ↓o_neSl, ↓o_eqStr, ↓o_neStr, ↓o_len, ↓o_lenS, ↓o_min, ↓o_max, ↓o_extract, ↓o_convInt, ↓cd_true, ↓cd_false, ↓gate_tt, ↓gate_ff, ↓gate_tf, ↓gate_ft, ↓gate_undef, ↓o_bind, ↓stay_v, ↓pop_cons, ↓fin_nil, Option.isNone_none, Option.isNone_some, Bool.not_true, Bool.not_false, Nat.zero_add, decide_true, decide_false, if_true, if_false, Bool.false_eq_true, ↓reduceIte, i0, i1, i2, i4, i5, i6, i7]
  refine ld_at h ?_
  rw [o_addW]
  try rw [i4]
  refine store_at h rfl (by simp) fun w h => ?_
  rw [o_addW]
  try rw [i0]
  refine store_at h rfl (by simp) fun w h => ?_
  try rw [o_add]
  rw [i64_of (by omega) (by omega)]
  exact hk _ h
end Go.Proofs.YtmnaalpjhkkglaaDoor

/-
  mix, whole.
-/
set_option linter.all false
set_option maxRecDepth 10000
namespace Go.Proofs.YtmnaalpjhkkglaaDoor
open Go Hold
variable {E : World0} {w : World} {H R : HP} {K : Value → World → Prop}
theorem take_drop_set {α : Type} {x y : List α} {n i : Nat} {v : α} (hx : x.length = n) (hy : y.length = n) (hi : i < n) (hv : x[i]? = some v) : (x.take i ++ y.drop i).set i v = x.take (i + 1) ++ y.drop (i + 1) := by
  apply List.ext_getElem?
  intro j
  rw [List.getElem?_set, List.getElem?_append, List.getElem?_append]
  simp only [List.length_append, List.length_take, List.length_drop, List.getElem?_take, List.getElem?_drop, hx, hy]
  by_cases h1 : i = j
  · subst h1
    have : i < min i n + (n - i) := by omega
    have h3 : i < min (i + 1) n := by omega
    simp [this, h3, hv]
  · rw [if_neg h1]
    by_cases h2 : j < i
    · have h3 : j < min i n := by omega
      have h4 : j < min (i + 1) n := by omega
      have h5 : j < i + 1 := by omega
      simp [h3, h4, h2, h5]
    · have h3 : ¬ j < min i n := by omega
      have h4 : ¬ j < min (i + 1) n := by omega
      rw [if_neg h3, if_neg h4]
      congr 1; omega
theorem take_drop_get {α : Type} {x y : List α} {n i : Nat} (hx : x.length = n) (hi : i < n) : (x.take i ++ y.drop i)[i]? = y[i]? := by
  rw [List.getElem?_append_right (by simp; omega)]
  simp only [List.length_take, List.getElem?_drop]
  congr 1; omega
theorem wv_one (l : List UInt32) : ∀ x ∈ l.map wv, x.oneCell' = true := by
  intro x hx
  obtain ⟨b, _, rfl⟩ := List.mem_map.1 hx
  rfl
theorem St.len (v : St) : v.list.length = 8 := rfl
theorem St.add_get (x y : St) : ∀ {i : Nat}, i < 8 → (x.add y).list.getD i 0 = x.list.getD i 0 + y.list.getD i 0
  | 0, _ => rfl
  | 1, _ => rfl
  | 2, _ => rfl
  | 3, _ => rfl
  | 4, _ => rfl
  | 5, _ => rfl
  | 6, _ => rfl
  | 7, _ => rfl
  | n + 8, h => by omega
theorem mix_spec (h : sat E w H) {st : St} {bk : Nat} {ek : TypeId} {frk : Nat × Nat} {ks : List UInt32} (hks : ks.length = 64) [hbk : Has H bk (.cells (ks.map wv).toArray ek frk)] {vb : Value} {b : List UInt8} (hb : Rds H vb b.length (b.map bv)) (hbl : 64 ≤ b.length)
    (hK : ∀ w, sat E w H → K (.agg ((mix ks st b).list.map wv).toArray) w) :
    Calls prog 27 #[.agg (st.list.map wv).toArray, .pointer (some ⟨bk, 0, none⟩), vb] w (Ret K) := by
  obtain ⟨bb, o, c, rfl, hc, hb⟩ := hb.opened h (by simp; omega)
  refine c27 ?_
  unfold B27
  refine box_sl h fun b1 w h => ?_
  refine alloc_sl h fun b2 w h => ?_
  refine alloc_sl h fun b3 w h => ?_
  have h : sat E w (pts b3 (.cells (List.replicate 64 (wv 0)).toArray 117 (0, 0)) * (pts b2 (.cells (List.replicate 8 (wv 0)).toArray 79 (0, 0)) * (pts b1 (.cells (st.list.map wv).toArray 79 (0, 0)) * H))) := h
  refine lp_nat (fun m σ w => ∃ i : Nat, σ = [.int .i64 i] ∧ m = 64 - i ∧ i ≤ 64 ∧
    sat E w (pts b3 (.cells ((sched b i).map wv ++ List.replicate (64 - i) (wv 0)).toArray 117 (0, 0)) * (pts b2 (.cells (List.replicate 8 (wv 0)).toArray 79 (0, 0)) * (pts b1 (.cells (st.list.map wv).toArray 79 (0, 0)) * H)))) 64 ⟨0, rfl, rfl, by omega, h⟩ ?_
  rintro m σ w again ⟨i, rfl, rfl, hi, h⟩ hag
  have hb' : Rds (pts b3 (.cells ((sched b i).map wv ++ List.replicate (64 - i) (wv 0)).toArray 117 (0, 0)) * (pts b2 (.cells (List.replicate 8 (wv 0)).toArray 79 (0, 0)) * (pts b1 (.cells (st.list.map wv).toArray 79 (0, 0)) * H))) _ _ _ := hb.right.right.right
  rw [pop_cons, fin_nil, o_lss]
  refine cd_dec (fun hlt => ?_) (fun hge => ?_)
  · have hlt : i < 64 := by omega
    refine jn_cut (fun σ w => σ = [] ∧ sat E w (pts b3 (.cells ((sched b (i + 1)).map wv ++ List.replicate (64 - (i + 1)) (wv 0)).toArray 117 (0, 0)) * (pts b2 (.cells (List.replicate 8 (wv 0)).toArray 79 (0, 0)) * (pts b1 (.cells (st.list.map wv).toArray 79 (0, 0)) * H)))) ?_ ?_
    · intro kk hk
      rw [o_lss]
      by_cases h16 : (i : Int) < 16
      · rw [decide_eq_true h16, cd_true]
        refine mix_early h hlt h16 (sched_length b i) hb' hbl fun w h => hk _ _ ⟨rfl, ?_⟩
        have h16' : i < 16 := by omega
        have e : sched b (i + 1) = sched b i ++ [word b i] := by simp [sched, h16']
        rw [e]; exact h
      · rw [decide_eq_false h16, cd_false]
        refine mix_late h hlt h16 (sched_length b i) fun w h => hk _ _ ⟨rfl, ?_⟩
        have h16' : ¬ i < 16 := by omega
        have e : sched b (i + 1) = sched b i ++ [wNext (sched b i) i] := by simp [sched, h16']
        rw [e]; exact h
    · rintro σ w ⟨rfl, h⟩
      simp only [↓o_nil, ↓o_field, ↓o_add, ↓o_sub, ↓o_mul, ↓o_lss, ↓o_leq, ↓o_gtr, ↓o_geq, ↓o_not, ↓o_pick, ↓o_eqInt, ↓o_neInt, ↓o_eqBool, ↓o_neBool, ↓o_eqPtr, ↓o_nePtr, ↓o_eqPtr', ↓o_eqSl, ↓o_neSl, ↓o_eqStr, ↓o_neStr, ↓o_len, ↓o_lenS, ↓o_min, ↓o_max, ↓o_extract, ↓o_convInt, ↓cd_true, ↓cd_false, ↓gate_tt, ↓gate_ff, ↓gate_tf, ↓gate_ft, ↓gate_undef, ↓o_bind, ↓stay_v, ↓pop_cons, ↓fin_nil, Option.isNone_none, Option.isNone_some, Bool.not_true, Bool.not_false, Nat.zero_add, decide_true, decide_false, if_true, if_false, Bool.false_eq_true, ↓reduceIte]
      rw [i64_of (by omega) (by omega)]
      exact hag _ _ _ (by omega) ⟨i + 1, rfl, rfl, by omega, h⟩
  · have hi64 : i = 64 := by omega
    subst hi64
    have h : sat E w (pts b3 (.cells ((sched b 64).map wv).toArray 117 (0, 0)) * (pts b2 (.cells (List.replicate 8 (wv 0)).toArray 79 (0, 0)) * (pts b1 (.cells (st.list.map wv).toArray 79 (0, 0)) * H))) := by
      simpa using h
    refine ld_agg h (by simp [St.len]) ?_
    refine alloc_sl h fun b4 w h => ?_
    have h : sat E w (pts b4 (.cells (List.replicate 8 (wv 0)).toArray 79 (0, 0)) * (pts b3 (.cells ((sched b 64).map wv).toArray 117 (0, 0)) * (pts b2 (.cells (List.replicate 8 (wv 0)).toArray 79 (0, 0)) * (pts b1 (.cells (st.list.map wv).toArray 79 (0, 0)) * H)))) := h
    refine storeN_sl (b := b4) h (aggC_79).size (vs := st.list.map wv) (by simp [Value.cells]) (by simp [St.len]) (wv_one _) (by simp) fun w h => ?_
    have h : sat E w (pts b4 (.cells (st.list.map wv).toArray 79 (0, 0)) * (pts b3 (.cells ((sched b 64).map wv).toArray 117 (0, 0)) * (pts b2 (.cells (List.replicate 8 (wv 0)).toArray 79 (0, 0)) * (pts b1 (.cells (st.list.map wv).toArray 79 (0, 0)) * H)))) := h
    refine lp_nat (fun m σ w => ∃ i : Nat, σ = [.int .i64 i] ∧ m = 64 - i ∧ i ≤ 64 ∧
      sat E w (pts b4 (.cells ((Go.Proofs.YtmnaalpjhkkglaaDoor.rounds ks (sched b 64) st i).list.map wv).toArray 79 (0, 0)) * (pts b3 (.cells ((sched b 64).map wv).toArray 117 (0, 0)) * (pts b2 (.cells (List.replicate 8 (wv 0)).toArray 79 (0, 0)) * (pts b1 (.cells (st.list.map wv).toArray 79 (0, 0)) * H))))) 64 ⟨0, rfl, rfl, by omega, h⟩ ?_
    rintro m σ w again ⟨i, rfl, rfl, hi, h⟩ hag
    rw [pop_cons, fin_nil, o_lss]
    refine cd_dec (fun hlt => ?_) (fun hge => ?_)
    · refine mix_round h (by omega) hks (sched_length b 64) fun w h => ?_
      exact hag _ _ _ (by omega) ⟨i + 1, rfl, rfl, by omega, h⟩
    · have hi64 : i = 64 := by omega
      subst hi64
      refine lp_nat (fun m σ w => ∃ i : Nat, σ = [.int .i64 i] ∧ m = 8 - i ∧ i ≤ 8 ∧
        sat E w (pts b1 (.cells (((mix ks st b).list.take i ++ st.list.drop i).map wv).toArray 79 (0, 0)) * (pts b4 (.cells ((Go.Proofs.YtmnaalpjhkkglaaDoor.rounds ks (sched b 64) st 64).list.map wv).toArray 79 (0, 0)) * (pts b3 (.cells ((sched b 64).map wv).toArray 117 (0, 0)) * (pts b2 (.cells (List.replicate 8 (wv 0)).toArray 79 (0, 0)) * H))))) 8 ⟨0, rfl, rfl, by omega, ?_⟩ ?_
      · have := h.own b1
        exact this
      rintro m σ w again ⟨i, rfl, rfl, hi, h⟩ hag
      rw [pop_cons, fin_nil, o_lss]
      refine cd_dec (fun hlt => ?_) (fun hge => ?_)
      · have hlt : i < 8 := by omega
        have ix : ∀ {b : Nat} {w : World} {K : Value → World → Prop}, pvv prog (Instr.indexAt 79 (.pointer (some ⟨b, 0, none⟩)) (.int .i64 (i : Int))) w K = K (.pointer (some ⟨b, i, none⟩)) w := fun {b w K} => by
          rw [o_indexA (by omega) (by omega)]; simp
        refine dr_sl h fun w h _ => ?_
        simp only [↓o_nil, ↓o_field, ↓o_add, ↓o_sub, ↓o_mul, ↓o_lss, ↓o_leq, ↓o_gtr, ↓o_geq, ↓o_not, ↓o_pick, ↓o_eqInt, ↓o_neInt, ↓o_eqBool, ↓o_neBool, ↓o_eqPtr, ↓o_nePtr, ↓o_eqPtr', ↓o_eqSl, ↓o_neSl, ↓o_eqStr, ↓o_neStr, ↓o_len, ↓o_lenS, ↓o_min, ↓o_max, ↓o_extract, ↓o_convInt, ↓cd_true, ↓cd_false, ↓gate_tt, ↓gate_ff, ↓gate_tf, ↓gate_ft, ↓gate_undef, ↓o_bind, ↓stay_v, ↓pop_cons, ↓fin_nil, Option.isNone_none, Option.isNone_some, Bool.not_true, Bool.not_false, Nat.zero_add, decide_true, decide_false, if_true, if_false, Bool.false_eq_true, ↓reduceIte, ix]
        have g1 : (((mix ks st b).list.take i ++ st.list.drop i).map wv)[i]? = some (wv (st.list.getD i 0)) := by
          rw [List.getElem?_map, take_drop_get (St.len _) hlt, ← List.getElem?_map]
          exact getwv' (by rw [St.len]; exact hlt)
        refine ld_in (b := b1) h g1 ?_
        refine ld_in (b := b4) h (getwv' (by rw [St.len]; exact hlt)) ?_
        rw [o_addW]
        try rw [ix]
        refine store_sl (b := b1) h rfl (by simp [St.len]; omega) fun w h => ?_
        try rw [o_add]
        rw [i64_of (by omega) (by omega)]
        refine hag _ _ _ (by omega) ⟨i + 1, rfl, rfl, by omega, ?_⟩
        have e : (mix ks st b).list.getD i 0 = st.list.getD i 0 + (Go.Proofs.YtmnaalpjhkkglaaDoor.rounds ks (sched b 64) st 64).list.getD i 0 := St.add_get _ _ hlt
        have e2 : (((mix ks st b).list.take i ++ st.list.drop i).map wv).set i (wv (st.list.getD i 0 + (Go.Proofs.YtmnaalpjhkkglaaDoor.rounds ks (sched b 64) st 64).list.getD i 0)) = ((mix ks st b).list.take (i + 1) ++ st.list.drop (i + 1)).map wv := by
          rw [← List.map_set]
          congr 1
          refine take_drop_set (St.len _) (St.len _) hlt ?_
          rw [← e]
          have hl : i < (mix ks st b).list.length := by rw [St.len]; exact hlt
          simp [List.getD_eq_getElem?_getD, hl]
        rw [e2] at h
        exact h
      · have hi8 : i = 8 := by omega
        subst hi8
        have e : (mix ks st b).list.take 8 ++ st.list.drop 8 = (mix ks st b).list := rfl
        rw [e] at h
        refine ld_agg (b := b1) h (by simp [St.len]) ?_
        refine storeN_sl (b := b2) h (aggC_79).size (vs := (mix ks st b).list.map wv) (by simp [Value.cells]) (by simp [St.len]) (wv_one _) (by simp) fun w h => ?_
        have h : sat E w (pts b2 (.cells ((mix ks st b).list.map wv).toArray 79 (0, 0)) * (pts b1 (.cells ((mix ks st b).list.map wv).toArray 79 (0, 0)) * (pts b4 (.cells ((Go.Proofs.YtmnaalpjhkkglaaDoor.rounds ks (sched b 64) st 64).list.map wv).toArray 79 (0, 0)) * (pts b3 (.cells ((sched b 64).map wv).toArray 117 (0, 0)) * H)))) := h
        exact res_agg (b := b2) h (by simp [St.len]) (hK _ h.drop.drop.drop.drop)
end Go.Proofs.YtmnaalpjhkkglaaDoor
