/-
  Strings: their bytes appended, copied, compared.
-/
import Derived.Test.YtnkmgkilfkgfhaaDoorBytes
import Derived.Lib.AppendStr
import Derived.Laws.IdiomCopy
import Derived.Laws.CopyRow
set_option linter.all false
namespace Hold
open Go
/-- A text of these bytes. -/
def tv (l : List UInt8) : Value := .string ⟨l.toArray⟩
section
variable {P : Program} {E : World0} {w : World} {H R : HP} {K : Value → World → Prop}

theorem strCells_tv (l : List UInt8) : Lib.strCells ⟨l.toArray⟩ = l.map bv := rfl
theorem o_lenT {t ty : TypeId} {cs : Array Bool} {l : List UInt8} [i : Ul P t .string] : pv P (oBi .len #[t] ty cs #[tv l]) w K = K (.int .i64 l.length) w := o_lenS
theorem beq_lists (a b : List UInt8) : (((⟨a.toArray⟩ : ByteArray).toList == (⟨b.toArray⟩ : ByteArray).toList)) = decide (a = b) := by
  rw [ByteArray.toList_eq, ByteArray.toList_eq]
  simp [Bool.beq_eq_decide_eq]
theorem o_eqT {t : TypeId} {xo yo : Operand} {a b : List UInt8} : pvv P (oEq .eql t xo yo (tv a) (tv b)) w K = K (.bool (decide (a = b))) w := by
  unfold tv; rw [o_eqStr, beq_lists]
theorem o_neT {t : TypeId} {xo yo : Operand} {a b : List UInt8} : pvv P (oEq .neq t xo yo (tv a) (tv b)) w K = K (.bool !(decide (a = b))) w := by
  unfold tv; rw [o_neStr, beq_lists]
theorem zlen (n : Nat) : (Builtin.zeroCells (Value.int .u8 0).cells n).toList.length = n := by
  rw [Array.length_toList, size_zeroCells]
  simp [Value.cells]
theorem append_str (h : sat E w H) {t u ty e : TypeId} [i : SliceT P t e 1 1 (.int .u8 0)] [j : Ul P u .string] {cs : Array Bool} {v : Value} {n : Nat} {xs : List Value} [s : OwnS H v e 1 n xs R] {l : List UInt8}
    (hb : n + l.length ≤ 140737488355328) (k : ∀ v' w', sat E w' (osl e 1 v' (n + l.length) (xs ++ l.map bv) * R) → K v' w') : ef P (oBi .append #[t, u] ty cs #[v, tv l]) w K := by
  obtain ⟨y, hy, hy1, hy2, hy3⟩ := i.parts
  have hs' := h.perm s.eq
  have ef_bi : ∀ {v' w'}, (Builtin.append_ #[t, u] ty #[v, tv l]).run P w = .ok v' w' → K v' w' → ef P (oBi .append #[t, u] ty cs #[v, tv l]) w K := fun hr hk =>
    ef_of (by simp [oBi, builtin, hr]) hk
  have hsz : (⟨l.toArray⟩ : ByteArray).size = l.length := by simp [ByteArray.size]
  have grow : ∀ (sCap : Nat) (X : HP), sat E w X → n = xs.length → sCap < n + l.length → sat E (w.drew.alloc (.cells (xs.toArray ++ (l.map bv).toArray ++ Builtin.zeroCells (Value.int .u8 0).cells (grownCap w (n + l.length) sCap e - (n + l.length))) e)) (osl e 1 (.slice (some ⟨w.heap.size, 0, none⟩) (n + l.length) (grownCap w (n + l.length) sCap e)) (n + l.length) (xs ++ l.map bv) * X) := by
    intro sCap X hX hxl hlt
    have hge := grownCap_ge w (n + l.length) sCap e
    have hle := grownCap_le_maxLen w (n + l.length) sCap e (by simp only [maxLen]; omega)
    refine sat_osl.2 (.inr ⟨w.heap.size, _, (Builtin.zeroCells (Value.int .u8 0).cells (grownCap w (n + l.length) sCap e - (n + l.length))).toList, rfl, by simp [hxl], ?_, hge, by simp only [maxLen] at hle; omega, ?_⟩)
    · rw [List.length_append, List.length_append, ← hxl, List.length_map, zlen]
      omega
    · have := hX.drew.alloc (.cells (xs.toArray ++ (l.map bv).toArray ++ Builtin.zeroCells (Value.int .u8 0).cells (grownCap w (n + l.length) sCap e - (n + l.length))) e (0, 0))
      have e1 : ((xs ++ l.map bv) ++ (Builtin.zeroCells (Value.int .u8 0).cells (grownCap w (n + l.length) sCap e - (n + l.length))).toList).toArray = xs.toArray ++ (l.map bv).toArray ++ Builtin.zeroCells (Value.int .u8 0).cells (grownCap w (n + l.length) sCap e - (n + l.length)) := by
        apply Array.ext'; simp
      rw [e1]; exact this
  rcases sat_osl.1 hs' with ⟨rfl, rfl, rfl, hR⟩ | ⟨b, cap, sp, rfl, hxl, hcl, hnc, hcm, hP⟩
  · by_cases hk0 : l.length = 0
    · have hn : l = [] := List.eq_nil_of_length_eq_zero hk0
      subst hn
      refine ef_bi (v' := .slice none 0 0) (w' := w) ?_ (k _ _ (by simpa using osl_nil hR e 1))
      simp [tv, Builtin.append_, run_underlying' i.ul, run_underlying' j.ul, Go.sizeOf, typeInfo, hy, Builtin.lenOf, Builtin.firstCells, ByteArray.size]
    · have hr := run_append_nil_string (P := P) (w := w) t u ty e y _ i.ul j.ul hy hy1 ⟨l.toArray⟩ (by rw [hsz]; omega) (by rw [hsz]; omega) (by rw [hsz, hy3]; omega)
      rw [hsz] at hr
      refine ef_bi hr (k _ _ ?_)
      have := grow 0 R hR (by simp) (by omega)
      have e2 : (⟨l.toArray⟩ : ByteArray).data.map (fun b => Value.int .u8 b.toNat) = (l.map bv).toArray := by simp [bv]
      simp only [Nat.zero_add, List.nil_append] at this ⊢
      rw [e2]
      simpa using this
  · have hbl := hP.pts_get
    have hxl : xs.length = n := by omega
    by_cases hroom : n + l.length ≤ cap
    · have hr := Lib.run_append_room_string (P := P) (w := w) t u ty e y i.ul j.ul hy hy2 b n cap (xs ++ sp).toArray hbl ⟨l.toArray⟩ (by rw [hsz]; exact hroom) (by rw [hsz]; simp only [List.size_toArray]; omega)
      rw [setRow_putObj hbl, hsz, strCells_tv] at hr
      refine ef_bi hr (k _ _ (sat_osl.2 (.inr ⟨b, cap, sp.drop l.length, rfl, by simp [hxl], ?_, hroom, hcm, ?_⟩)))
      · rw [List.length_append] at hcl
        simp only [List.length_append, List.length_drop, List.length_map]
        omega
      · have e1 : ((xs ++ sp).toArray.toList.take n ++ l.map bv ++ (xs ++ sp).toArray.toList.drop (n + l.length)) = xs ++ l.map bv ++ sp.drop l.length := by
          rw [← hxl]
          simp [List.take_left', List.drop_append]
        rw [e1]
        exact hP.set _
    · have holds : ∀ j u, xs[j]? = some u → w.cell? ((⟨b, 0, none⟩ : Addr).add j) = some u := fun j u hj => by
        rw [add_addr]; exact cell_of hbl (by
          have hlt := (List.getElem?_eq_some_iff.1 hj).1
          simpa [List.getElem?_append_left hlt] using hj)
      have hr := Lib.run_append_grow_string (P := P) (w := w) t u ty e y _ i.ul j.ul hy hy1 ⟨b, 0, none⟩ n cap xs (by rw [hy2]; omega) holds ⟨l.toArray⟩ (by rw [hsz]; omega) (by rw [hsz]; omega) (by rw [hsz, hy3]; exact growslice_fits (by omega) (by omega))
      rw [hsz, strCells_tv] at hr
      exact ef_bi hr (k _ _ (grow cap R hP.drop (by omega) (by omega)))
/-- copy: all of the source fits. -/
theorem copy_sl (h : sat E w H) {t u ty e e' m : TypeId} {z : Value} [i : SliceT P t e 1 m z] {cs : Array Bool} {b n c : Nat} {xs : List Value} [s : OwnS H (.slice (some ⟨b, 0, none⟩) n c) e' 1 n xs R]
    {a : Option Addr} {k' c' : Nat} {news : List Value} (hl : news.length = k') (hw : win (hp w) a news) (h1 : ∀ x ∈ news, x.oneCell' = true) (hle : k' ≤ n)
    (k : ∀ w', sat E w' (osl e' 1 (.slice (some ⟨b, 0, none⟩) n c) n (news ++ xs.drop k') * R) → K (.int .i64 k') w') : ef P (oBi .copy #[t, u] ty cs #[.slice (some ⟨b, 0, none⟩) n c, .slice a k' c']) w K := by
  have hs' := h.perm s.eq
  have ef_bi : ∀ {v' w'}, (Builtin.copy_ #[t, u] ty #[.slice (some ⟨b, 0, none⟩) n c, .slice a k' c']).run P w = .ok v' w' → K v' w' → ef P (oBi .copy #[t, u] ty cs #[.slice (some ⟨b, 0, none⟩) n c, .slice a k' c']) w K := fun hr hk =>
    ef_of (by simp [oBi, builtin, hr]) hk
  by_cases hk0 : k' = 0
  · subst hk0
    have hn : news = [] := List.eq_nil_of_length_eq_zero hl
    subst hn
    have hr := run_copy_none (P := P) w t u ty e (some ⟨b, 0, none⟩) a n c 0 c' i.ul i.size (by simp)
    exact ef_bi hr (k _ (by simpa using hs'))
  · obtain ⟨b', c2, sp, hv, hxl, hc, hP, hcl⟩ := osl_open hs' (by omega)
    cases hv
    rcases hw with rfl | ⟨b2, o2, cs2, e2, fr2, rfl, hb2, hv2⟩
    · simp at hl; omega
    · have hbl := hP.pts_get
      have hr := run_copy_row (P := P) w t u ty e b 0 n c ⟨b2, o2, none⟩ k' c' (xs ++ sp).toArray e' news i.ul i.size hbl (by rw [hl]; exact (Nat.min_eq_left hle).symm) (fun j v hj => by rw [add_addr]; exact cell_of hb2 (hv2 j v hj)) (by simp; omega) h1
      rw [setRow_putObj hbl] at hr
      refine ef_bi hr (by
        have := k (w.putObj b (.cells ((xs ++ sp).toArray.toList.take 0 ++ news ++ (xs ++ sp).toArray.toList.drop (0 + news.length)).toArray e' (0, 0))) (hcl (xs' := news ++ xs.drop k') (by simp; omega) ?_)
        · rw [hl] at this ⊢; exact this
        · have e1 : ((xs ++ sp).toArray.toList.take 0 ++ news ++ (xs ++ sp).toArray.toList.drop (0 + news.length)) = (news ++ xs.drop k') ++ sp := by
            simp only [List.take_zero, List.nil_append, Nat.zero_add, hl, List.append_assoc]
            congr 1
            rw [List.drop_append_of_le_length (by omega)]
          rw [e1]
          exact hP.set _)
theorem win_take {J : Hp} {a : Option Addr} {xs : List Value} (h : win J a xs) (m : Nat) : win J a (xs.take m) := by
  rcases h with rfl | ⟨b, o, cs, e, fr, rfl, hb, hv⟩
  · left; simp
  · right
    refine ⟨b, o, cs, e, fr, rfl, hb, fun j v hj => hv j v ?_⟩
    rw [List.getElem?_take] at hj
    split at hj
    · exact hj
    · cases hj
theorem RdS.cut {J : Hp} {a : Option Addr} {n c lo hi : Nat} {xs : List Value} (h : RdS J (.slice a n c) n xs) (hx : xs.length = n) (h1 : lo ≤ hi) (h2 : hi ≤ n) :
    RdS J (.slice (cutA a c lo 1) (hi - lo) (c - lo)) (hi - lo) ((xs.drop lo).take (hi - lo)) := by
  obtain ⟨a', c', e, hc, hw⟩ := h
  cases e
  refine ⟨_, _, rfl, by omega, win_take ?_ _⟩
  have := win_cut (sz := 1) hw (c := c) (n := lo) (fun hcn => by omega)
  rwa [Nat.mul_one] at this
theorem RdS.cutl {J : Hp} {a : Option Addr} {n c lo : Nat} {xs : List Value} (h : RdS J (.slice a n c) n xs) (hx : xs.length = n) (h1 : lo ≤ n) :
    RdS J (.slice (cutA a c lo 1) (n - lo) (c - lo)) (n - lo) (xs.drop lo) := by
  have := h.cut hx h1 (Nat.le_refl n)
  rwa [List.take_of_length_le (by simp; omega)] at this
end
end Hold
