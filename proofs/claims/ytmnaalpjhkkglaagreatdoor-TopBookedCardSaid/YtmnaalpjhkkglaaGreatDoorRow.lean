/-
  Rows: pieces of arrays as slices; append to a full row, and of noughts; copy within a row.
-/
import Derived.Test.YtmnaalpjhkkglaaGreatDoorArr
import Derived.Lib.AppendZerosOnto
import Derived.Lib.AppendZeros
set_option linter.all false
namespace Hold
open Go
section
variable {P : Program} {E : World0} {w : World} {H R : HP} {K : Value → World → Prop}
theorem o_sliceA_l {t e : TypeId} {len : Nat} [i : Ul P t (.array len e)] [j : OneC P e] {b o : Nat} {k : IntKind} {x : Int} (h0 : 0 ≤ x) (h1 : x < len) :
    pvv P (Instr.sliceAt t (.pointer (some ⟨b, o, none⟩)) (some (.int k x)) none none) w K = K (.slice (some ⟨b, o + x.toNat, none⟩) (len - x.toNat) (len - x.toNat)) w := pvv_eq fun w => by
  have h2 : x ≤ len := by omega
  have h3 : ¬ (len = x.toNat) := by omega
  simp [Instr.sliceAt, Instr.sureAddr, Instr.sliceBounds, Instr.sliceBound, asIntOf, run_underlying' i.ul, run_sizeOf' j.size, add_addr, h0, h2, h3]
theorem o_sliceA_h {t e : TypeId} {len : Nat} [i : Ul P t (.array len e)] [j : OneC P e] {b o : Nat} {k : IntKind} {x : Int} (h0 : 0 ≤ x) (h1 : x ≤ len) :
    pvv P (Instr.sliceAt t (.pointer (some ⟨b, o, none⟩)) none (some (.int k x)) none) w K = K (.slice (some ⟨b, o, none⟩) x.toNat len) w := pvv_eq fun w => by
  simp [Instr.sliceAt, Instr.sureAddr, Instr.sliceBounds, Instr.sliceBound, asIntOf, run_underlying' i.ul, run_sizeOf' j.size, add_addr, h0, h1]
/-- The element of an array's value. -/
theorem o_indexV {t e : TypeId} {len : Nat} [i : Ul P t (.array len e)] [j : OneC P e] {xs : List Value} {k : IntKind} {x : Int} {v : Value} (hl : xs.length = len) (h0 : 0 ≤ x) (hv : xs[x.toNat]? = some v) :
    pvv P (Instr.index t (.agg xs.toArray) (.int k x)) w K = K v w := pvv_eq fun w => by
  have h1 := (List.getElem?_eq_some_iff.1 hv).1
  have h2 : x < len := by omega
  have hp : (part e xs.toArray x.toNat).run P w = .ok v w := by
    simp [part, j.agg w, hv]
  simp [Instr.index, asIntOf, run_underlying' i.ul, run_sizeOf' j.size, h0, h2, hp]
theorem o_shl {t : TypeId} {k k' : IntKind} {a : Int} {n : Nat} (hn : n ≤ k.bits) : pvv P (binOp .shl t (.int k a) (.int k' n)) w K = K (.int k (k.wrap (a * 2 ^ n))) w := pvv_eq fun _ => by
  have h0 : ¬ ((n : Int) < 0) := by omega
  have hm : min n k.bits = n := by omega
  simp [binOp, Op.shift, h0, hm]
theorem o_shr {t : TypeId} {k k' : IntKind} {a : Nat} {n : Nat} (hn : n ≤ k.bits) : pvv P (binOp .shr t (.int k a) (.int k' n)) w K = K (.int k (a / 2 ^ n : Nat)) w := pvv_eq fun _ => by
  have h0 : ¬ ((n : Int) < 0) := by omega
  have hm : min n k.bits = n := by omega
  have h2 : ((2 : Int) ^ n) = ((2 ^ n : Nat) : Int) := by simp
  simp only [binOp, Op.shift, h0, hm, if_false, Int.toNat_natCast, Sem.run_pure]
  rw [h2, Int.fdiv_eq_ediv_of_nonneg _ (Int.natCast_nonneg _)]
  simp
theorem o_xorB {t : TypeId} {a b : UInt8} : pvv P (binOp .xor t (bv a) (bv b)) w K = K (bv (a ^^^ b)) w := pvv_eq fun _ => by
  simp only [binOp, Op.intBits, bv, IntKind.bits, ofInt8]
  simp
  exact (wrapB (a ^^^ b)).trans (by simp)
theorem o_andB {t : TypeId} {a b : UInt8} : pvv P (binOp .and t (bv a) (bv b)) w K = K (bv (a &&& b)) w := pvv_eq fun _ => by
  simp only [binOp, Op.intBits, bv, IntKind.bits, ofInt8]
  simp
  exact (wrapB (a &&& b)).trans (by simp)
theorem o_orB {t : TypeId} {a b : UInt8} : pvv P (binOp .or t (bv a) (bv b)) w K = K (bv (a ||| b)) w := pvv_eq fun _ => by
  simp only [binOp, Op.intBits, bv, IntKind.bits, ofInt8]
  simp
  exact (wrapB (a ||| b)).trans (by simp)
/-- append to a full row that can be read: what comes can be read. -/
theorem append_full (h : sat E w H) {t ty e m : Nat} {z : Value} [i : SliceT P t e 1 m z] {cs : Array Bool} {a : Option Addr} {n : Nat} {xs : List Value} (hx : xs.length = n) (hv : Rds H (.slice a n n) n xs)
    {a2 : Option Addr} {k' c : Nat} (news : List Value) (hl : news.length = k') (hw : win (hp w) a2 news) (h1 : ∀ x ∈ news, x.oneCell' = true) (hb : (n + k') * m ≤ 140737488355328) (hm : n + k' ≤ 9223372036854775807)
    (k : ∀ v' w' X, sat E w' (X * H) → Rds (X * H) v' (n + k') (xs ++ news) → K v' w') : ef P (oBi .append #[t, t] ty cs #[.slice a n n, .slice a2 k' c]) w K := by
  obtain ⟨y, hy, hy1, hy2, hy3⟩ := i.parts
  have hz := i.zs
  have ef_bi : ∀ {v' w'}, (Builtin.append_ #[t, t] ty #[.slice a n n, .slice a2 k' c]).run P w = .ok v' w' → K v' w' → ef P (oBi .append #[t, t] ty cs #[.slice a n n, .slice a2 k' c]) w K := fun hr hk =>
    ef_of (by simp [oBi, builtin, hr]) hk
  by_cases hk0 : k' = 0
  · subst hk0
    have hn : news = [] := List.eq_nil_of_length_eq_zero hl
    subst hn
    have hst : ∀ (ad : Addr), (storeCells ad ([] : List Value) 0).run P w = .ok () w := fun ad => rfl
    refine ef_bi (v' := .slice a (n + 0) n) (w' := w) ?_ (k _ _ emp (by rw [emp_star]; exact h) ?_)
    · cases a2 <;> cases a <;> simp [Builtin.append_, run_underlying' i.ul, Go.sizeOf, typeInfo, hy, Builtin.lenOf, Builtin.firstCells, loadCells, loadCellsFrom, hst]
    · rw [emp_star]; simpa using hv
  · rcases hw with rfl | ⟨b2, o2, cs2, e2, fr2, rfl, hb2, hv2⟩
    · simp at hl; omega
    · have grow : ∀ (sCap : Nat), sCap < n + k' → sat E (w.drew.alloc (.cells (xs.toArray ++ news.toArray ++ Builtin.zeroCells z.cells (grownCap w (n + k') sCap e - (n + k'))) e)) (osl e 1 (.slice (some ⟨w.heap.size, 0, none⟩) (n + k') (grownCap w (n + k') sCap e)) (n + k') (xs ++ news) * H) := by
        intro sCap hlt
        have hge := grownCap_ge w (n + k') sCap e
        have hle := grownCap_le_maxLen w (n + k') sCap e (by simp only [maxLen]; omega)
        refine sat_osl.2 (.inr ⟨w.heap.size, _, (Builtin.zeroCells z.cells (grownCap w (n + k') sCap e - (n + k'))).toList, rfl, by simp; omega, ?_, hge, by simp only [maxLen] at hle; omega, ?_⟩)
        · rw [List.length_append, List.length_append, hx, hl, Array.length_toList, size_zeroCells, hz]
          omega
        · have := h.drew.alloc (.cells (xs.toArray ++ news.toArray ++ Builtin.zeroCells z.cells (grownCap w (n + k') sCap e - (n + k'))) e (0, 0))
          have e1 : ((xs ++ news) ++ (Builtin.zeroCells z.cells (grownCap w (n + k') sCap e - (n + k'))).toList).toArray = xs.toArray ++ news.toArray ++ Builtin.zeroCells z.cells (grownCap w (n + k') sCap e - (n + k')) := by
            apply Array.ext'; simp
          rw [e1]; exact this
      have hnews : ∀ j v, news[j]? = some v → w.cell? ((⟨b2, o2, none⟩ : Addr).add j) = some v := fun j v hj => by rw [add_addr]; exact cell_of hb2 (hv2 j v hj)
      rcases hv.win h with rfl | ⟨b, o, cs1, e1, fr1, rfl, hb1, hv1⟩
      · simp at hx
        subst hx
        cases a with
        | none =>
          have hr := run_append_nil (P := P) w t ty e y z i.ul hy hy1 ⟨b2, o2, none⟩ k' c news (by rw [hy2]; omega) hnews (by omega) (by omega) (by rw [hy3]; simp only [Nat.zero_add] at hb; omega)
          have g0 := grow 0 (by omega)
          simp only [Nat.zero_add, List.nil_append] at g0 k ⊢
          refine ef_bi hr (k _ _ _ (by simpa using g0) Rds.osl.left)
        | some a =>
          have hr := run_append_grow (P := P) w t ty e y z i.ul hy hy1 a 0 0 [] (by simp) (fun j v hj => by simp at hj) ⟨b2, o2, none⟩ k' c news (by rw [hy2]; omega) hnews (by omega) (by omega) (growslice_fits (by omega) (by rw [hy3]; exact hb))
          exact ef_bi hr (k _ _ _ (grow 0 (by omega)) Rds.osl.left)
      · have hr := run_append_grow (P := P) w t ty e y z i.ul hy hy1 ⟨b, o, none⟩ n n xs (by rw [hy2]; omega) (fun j v hj => by rw [add_addr]; exact cell_of hb1 (hv1 j v hj)) ⟨b2, o2, none⟩ k' c news (by rw [hy2]; omega) hnews (by omega) (by omega) (growslice_fits (by omega) (by rw [hy3]; exact hb))
        exact ef_bi hr (k _ _ _ (grow n (by omega)) Rds.osl.left)
/-- append(v, make([]T, k')...). -/
theorem append_noughts (h : sat E w H) {t u ty e m : Nat} {z : Value} {ku : IntKind} [i : SliceT P t e 1 m z] [j : Ul P u (.int ku)] (hz1 : z.oneCell' = true) {cs : Array Bool} {v : Value} {n : Nat} {xs : List Value} [hs : OwnS H v e 1 n xs R]
    {kq : IntKind} {k' : Nat} (hb : (n + k') * m ≤ 140737488355328) (hm : n + k' ≤ 9223372036854775807)
    (k : ∀ v' w', sat E w' (osl e 1 v' (n + k') (xs ++ List.replicate k' z) * R) → K v' w') : ef P (oBi .append #[t, u] ty cs #[v, .int kq k']) w K := by
  obtain ⟨y, hy, hy1, hy2, hy3⟩ := i.parts
  have hz : z.cells = #[z] := by cases z <;> first | rfl | cases hz1
  have hs' := h.perm hs.eq
  have hzc : ∀ q, Builtin.zeroCells z.cells q = (List.replicate q z).toArray := fun q => by
    apply Array.ext'
    rw [hz]
    simp [Builtin.zeroCells]
    apply List.ext_getElem
    · simp
    · intro q1 h1 h2; simp [Nat.mod_one]
  have ef_bi : ∀ {v' w'}, (Builtin.append_ #[t, u] ty #[v, .int kq k']).run P w = .ok v' w' → K v' w' → ef P (oBi .append #[t, u] ty cs #[v, .int kq k']) w K := fun hr hk =>
    ef_of (by simp [oBi, builtin, hr]) hk
  have hwr : IntKind.i64.wrap (k' : Int) = k' := by rw [IntKind.wrap_i64]; omega
  have hneg : ¬ ((k' : Int) < 0) := by omega
  have h48i : ¬ (281474976710656 < (k' : Int) * (y.bytes : Int)) := by
    rw [← Int.natCast_mul, hy3]
    rw [Nat.add_mul] at hb
    omega
  have grow : ∀ (sCap : Nat) (X : HP), sat E w X → n = xs.length → sCap < n + k' → sat E (w.drew.alloc (.cells (xs.toArray ++ Builtin.zeroCells z.cells k' ++ Builtin.zeroCells z.cells (grownCap w (n + k') sCap e - (n + k'))) e)) (osl e 1 (.slice (some ⟨w.heap.size, 0, none⟩) (n + k') (grownCap w (n + k') sCap e)) (n + k') (xs ++ List.replicate k' z) * X) := by
    intro sCap X hX hxl hlt
    have hge := grownCap_ge w (n + k') sCap e
    have hle := grownCap_le_maxLen w (n + k') sCap e (by simp only [maxLen]; omega)
    refine sat_osl.2 (.inr ⟨w.heap.size, _, List.replicate (grownCap w (n + k') sCap e - (n + k')) z, rfl, by simp; omega, ?_, hge, by simp only [maxLen] at hle; omega, ?_⟩)
    · simp; omega
    · have := hX.drew.alloc (.cells (xs.toArray ++ Builtin.zeroCells z.cells k' ++ Builtin.zeroCells z.cells (grownCap w (n + k') sCap e - (n + k'))) e (0, 0))
      have e1 : ((xs ++ List.replicate k' z) ++ List.replicate (grownCap w (n + k') sCap e - (n + k')) z).toArray = xs.toArray ++ Builtin.zeroCells z.cells k' ++ Builtin.zeroCells z.cells (grownCap w (n + k') sCap e - (n + k')) := by
        rw [hzc, hzc]; apply Array.ext'; simp
      rw [e1]; exact this
  rcases sat_osl.1 hs' with ⟨rfl, rfl, rfl, hR⟩ | ⟨b, cap, sp, rfl, hxl, hcl, hnc, hcm, hP⟩
  · by_cases hk0 : k' = 0
    · subst hk0
      refine ef_bi (v' := .slice none 0 0) (w' := w) ?_ (k _ _ (by simpa using osl_nil hR e 1))
      simp [Builtin.append_, run_underlying' i.ul, run_underlying' j.ul, Go.sizeOf, typeInfo, hy, asInt, asIntOf, show IntKind.i64.wrap 0 = 0 from rfl]
    · have hr := Lib.run_append_grow_zeros (P := P) w t u ty e y z kq ku i.ul j.ul hy hy1 none 0 0 [] (by simp [Builtin.firstCells]) k' (by omega) (by omega) (by omega) (by omega) (by rw [hy3]; simp only [Nat.zero_add] at hb; omega) (growslice_fits (by omega) (by rw [hy3]; exact hb))
      exact ef_bi hr (k _ _ (grow 0 R hR rfl (by omega)))
  · have hbl := hP.pts_get
    have hxl : xs.length = n := by omega
    by_cases hk0 : k' = 0
    · subst hk0
      have hst : ∀ (ad : Addr), (storeCells ad ([] : List Value) 0).run P w = .ok () w := fun ad => rfl
      refine ef_bi (v' := .slice (some ⟨b, 0, none⟩) (n + 0) cap) (w' := w) ?_ (k _ _ (by simpa using hs'))
      simp [Builtin.append_, run_underlying' i.ul, run_underlying' j.ul, Go.sizeOf, typeInfo, hy, asInt, asIntOf, show IntKind.i64.wrap 0 = 0 from rfl, hnc, hst]
    by_cases hroom : n + k' ≤ cap
    · have hnew : (if k' * y.size = 0 then pure #[] else (do pure (Builtin.zeroCells (← zeroValue e).cells k') : Sem (Array Value))).run P w = .ok (List.replicate k' z).toArray w := by
        by_cases hk0 : k' = 0
        · subst hk0; simp
        · have : ¬ (k' * y.size = 0) := by rw [hy2]; omega
          rw [if_neg this]
          simp [zeroValue, typeInfo, hy, hy1, hzc]
      have hst := run_storeCells_at P b n e (List.replicate k' z) 0 (xs ++ sp).toArray w hbl (by simp at hcl ⊢; omega) (fun x hx => by rw [(List.mem_replicate.1 hx).2]; exact hz1)
      rw [setRow_putObj hbl] at hst
      refine ef_bi (v' := .slice (some ⟨b, 0, none⟩) (n + k') cap) ?_ (k _ _ (sat_osl.2 (.inr ⟨b, cap, sp.drop k', rfl, by simp; omega, ?_, hroom, hcm, hP.set _⟩)))
      · have hroom' : n + k' ≤ cap := hroom
        have e1 : ((xs ++ sp).toArray.toList.take (n + 0) ++ List.replicate k' z ++ (xs ++ sp).toArray.toList.drop (n + 0 + (List.replicate k' z).length)) = xs ++ List.replicate k' z ++ sp.drop k' := by
          rw [← hxl]
          simp [List.take_left', List.drop_append]
        rw [e1] at hst
        have hst' : (storeCells ((⟨b, 0, none⟩ : Addr).add (n * y.size)) (List.replicate k' z) 0).run P w = .ok () (w.putObj b (.cells (xs ++ List.replicate k' z ++ sp.drop k').toArray e (0, 0))) := by rw [add_addr, hy2, Nat.zero_add, Nat.mul_one]; exact hst
        have : ¬ (k' * y.size = 0) := by rw [hy2]; omega
        have hsz0 : ¬ (y.size = 0) := by omega
        simp [Builtin.append_, run_underlying' i.ul, run_underlying' j.ul, Go.sizeOf, typeInfo, hy, asInt, asIntOf, hwr, hneg, h48i, hroom', hk0, hsz0, zeroValue, hy1, hzc, hst']
        exact fun h => absurd h this
      · simp at hcl ⊢; omega
    · have holds : (Builtin.firstCells y.size n (.slice (some ⟨b, 0, none⟩) n cap)).run P w.drew = .ok xs.toArray w.drew :=
        run_firstCells_some (P := P) w.drew y.size n ⟨b, 0, none⟩ n cap xs (by rw [hy2]; omega) fun j u hj => by
          rw [add_addr]
          have hlt := (List.getElem?_eq_some_iff.1 hj).1
          exact cell_of (w := w.drew) hbl (by simpa [List.getElem?_append_left hlt] using hj)
      by_cases hk0 : k' = 0
      · omega
      · have hr := Lib.run_append_grow_zeros (P := P) w t u ty e y z kq ku i.ul j.ul hy hy1 (some ⟨b, 0, none⟩) n cap xs holds k' (by omega) (by omega) (by omega) (by omega) (by rw [hy3]; rw [Nat.add_mul] at hb; omega) (growslice_fits (by omega) (by rw [hy3]; exact hb))
        exact ef_bi hr (k _ _ (grow cap R hP.drop (by omega) (by omega)))
/-- copy into a row that is owned. -/
theorem copy_in (h : sat E w H) {t u ty e e' m : TypeId} {z : Value} [i : SliceT P t e 1 m z] {cs : Array Bool} {b o n c : Nat} {xs : List Value} [s : Own H b (.cells xs.toArray e' (0, 0)) R]
    {a : Option Addr} {k' c' : Nat} {news : List Value} (hl : news.length = min k' n) (hw : win (hp w) a news) (h1 : ∀ x ∈ news, x.oneCell' = true) (hle : o + news.length ≤ xs.length)
    (k : ∀ w', sat E w' (pts b (.cells (xs.take o ++ news ++ xs.drop (o + news.length)).toArray e' (0, 0)) * R) → K (.int .i64 news.length) w') : ef P (oBi .copy #[t, u] ty cs #[.slice (some ⟨b, o, none⟩) n c, .slice a k' c']) w K := by
  have hs' := h.own b
  have ef_bi : ∀ {v' w'}, (Builtin.copy_ #[t, u] ty #[.slice (some ⟨b, o, none⟩) n c, .slice a k' c']).run P w = .ok v' w' → K v' w' → ef P (oBi .copy #[t, u] ty cs #[.slice (some ⟨b, o, none⟩) n c, .slice a k' c']) w K := fun hr hk =>
    ef_of (by simp [oBi, builtin, hr]) hk
  have hbl := hs'.pts_get
  by_cases hn0 : news = []
  · subst hn0
    have hz : Nat.min k' n = 0 := by simpa using hl.symm
    have hr := run_copy_none (P := P) w t u ty e (some ⟨b, o, none⟩) a n c k' c' i.ul i.size hz
    exact ef_bi hr (by simpa [goInt] using k w (by simpa using hs'))
  · rcases hw with rfl | ⟨b2, o2, cs2, e2, fr2, rfl, hb2, hv2⟩
    · exact absurd rfl hn0
    · have hr := run_copy_row (P := P) w t u ty e b o n c ⟨b2, o2, none⟩ k' c' xs.toArray e' news i.ul i.size hbl hl (fun j v hj => by rw [add_addr]; exact cell_of hb2 (hv2 j v hj)) (by simpa using hle) h1
      rw [setRow_putObj hbl] at hr
      exact ef_bi hr (k _ (hs'.set _))
/-! ### Words and bytes that are read -/
theorem o_shrW' {t : TypeId} {a : UInt32} {k : IntKind} {x : Int} (h0 : 0 ≤ x) (h1 : x < 32) : pvv P (binOp .shr t (wv a) (.int k x)) w K = K (wv (a >>> UInt32.ofNat x.toNat)) w := by
  obtain ⟨n, rfl⟩ := Int.eq_ofNat_of_zero_le h0
  rw [o_shrW (by omega)]; rfl
theorem o_shlW' {t : TypeId} {a : UInt32} {k : IntKind} {x : Int} (h0 : 0 ≤ x) (h1 : x < 32) : pvv P (binOp .shl t (wv a) (.int k x)) w K = K (wv (a <<< UInt32.ofNat x.toNat)) w := by
  obtain ⟨n, rfl⟩ := Int.eq_ofNat_of_zero_le h0
  rw [o_shlW (by omega)]; rfl
theorem o_convBW {s d : TypeId} {x : UInt8} [i : Ul P s (.int .u8)] [j : Ul P d (.int .u32)] : pvv P (convert s d (bv x)) w K = K (wv x.toUInt32) w := by
  unfold bv wv
  rw [o_convInt, IntKind.wrap_u32]
  have := x.toNat_lt
  congr 2
  simp; omega
theorem o_convWB {s d : TypeId} {x : UInt32} [i : Ul P s (.int .u32)] [j : Ul P d (.int .u8)] : pvv P (convert s d (wv x)) w K = K (bv x.toUInt8) w := by
  unfold bv wv
  rw [o_convInt, IntKind.wrap_u8]
  congr 2
theorem getbv {l : List UInt8} {j : Nat} (h : j < l.length) : (l.map bv)[j]? = some (bv (l.getD j 0)) := by
  simp [List.getD_eq_getElem?_getD, h]
theorem getwv {l : List UInt32} {r : List Value} {j : Nat} (h : j < l.length) : (l.map wv ++ r)[j]? = some (wv (l.getD j 0)) := by
  rw [List.getElem?_append_left (by simpa using h)]
  simp [List.getD_eq_getElem?_getD, h]
theorem getwv' {l : List UInt32} {j : Nat} (h : j < l.length) : (l.map wv)[j]? = some (wv (l.getD j 0)) := by
  simp [List.getD_eq_getElem?_getD, h]
theorem Rds.opened {v : Value} {n : Nat} {xs : List Value} (hb : Rds H v n xs) (h : sat E w H) (hn : 0 < xs.length) : ∃ b o c, v = .slice (some ⟨b, o, none⟩) n c ∧ n ≤ c ∧ Rds H (.slice (some ⟨b, o, none⟩) n c) n xs := by
  obtain ⟨a, c, rfl, hc, hw⟩ := hb E w h
  rcases hw with rfl | ⟨b, o, _, _, _, rfl, _, _⟩
  · simp at hn
  · exact ⟨b, o, c, rfl, hc, hb⟩
theorem Rds.cell {b o n c : Nat} {xs : List Value} (hb : Rds H (.slice (some ⟨b, o, none⟩) n c) n xs) (h : sat E w H) {q j : Nat} {v : Value} (hq : q = o + j) (hv : xs[j]? = some v) : w.cell? ⟨b, q, none⟩ = some v := by
  subst hq
  exact win.cell (hb.win h) b o rfl j v hv
theorem ld_rd (h : sat E w H) {t b o n c q : Nat} {xs : List Value} {v : Value} [i : OneC P t] (hb : Rds H (.slice (some ⟨b, o, none⟩) n c) n xs) (j : Nat) (hq : q = o + j) (hv : xs[j]? = some v) (k : K v w) :
    ldv P (Instr.loadAt t (.pointer (some ⟨b, q, none⟩))) w K := ld_cell (hb.cell h hq hv) k
theorem st_rd (h : sat E w H) {g : Gd} {t b o n c q : Nat} {xs : List Value} {v : Value} {A : Prop} [i : OneC P t] (hb : Rds H (.slice (some ⟨b, o, none⟩) n c) n xs) (j : Nat) (hq : q = o + j) (hv : xs[j]? = some v) (k : A) :
    stv P g (Instr.loadAt t (.pointer (some ⟨b, q, none⟩))) v w A := st_cell (hb.cell h hq hv) k
/-- append(v, u). -/
theorem push_sl (h : sat E w H) {t ty e m : Nat} {z : Value} [i : SliceT P t e 1 m z] {cs : Array Bool} {v : Value} {n : Nat} {xs : List Value} [hs : OwnS H v e 1 n xs R] {u : Value} (hz : z.oneCell' = true) (hu : u.oneCell' = true)
    (hb : (n + 1) * m ≤ 140737488355328) (hm : n + 1 ≤ 9223372036854775807)
    (k : ∀ v' w', sat E w' (osl e 1 v' (n + 1) (xs ++ [u]) * R) → K v' w') : efv P (Instr.buildSlice t 1 #[(0, u)]) w fun t1 w => ef P (oBi .append #[t, t] ty cs #[v, t1]) w K := by
  obtain ⟨y, hy, hy1, hy2, hy3⟩ := i.parts
  have hcu : u.cells = #[u] := by cases u <;> first | rfl | cases hu
  have hcz : z.cells = #[z] := by cases z <;> first | rfl | cases hz
  refine buildSlice_sl h (e := e) (cs := #[u]) (fun w => ?_) fun b w h => ?_
  · have ht : (typeInfo e).run P w = .ok y w := by simp [typeInfo, hy]
    simp [Instr.buildSlice, run_underlying' i.ul, Go.sizeOf, zeroValue, ht, hy1, hy2, hcz, Instr.fill, hcu, newRow]
    have e0 : Array.range 1 = #[0] := rfl
    have e9 : ∀ f : Nat → Value, (Array.map f #[0]).setIfInBounds 0 u = #[u] := fun f => by simp
    rw [e0, e9]
  · refine append_sl h [u] rfl (.inr ⟨b, 0, #[u], e, (0, 0), rfl, h.pts_get, fun j v hj => by simpa using hj⟩) (by simpa using hu) hb hm fun v' w h => k _ _ (h.lose b)
end
end Hold
