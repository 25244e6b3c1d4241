/-
  Strings: joined, cut, indexed; made bytes and back; a builder's string.
-/
import Derived.Test.YtnkmgkilfkgfhaaDoorSized
import Derived.Lib.Builder
import Derived.Lib.UnsafeStr
import Derived.Lib.Bytealg
import Derived.Lib.SlBytesConst
set_option linter.all false
namespace Hold
open Go
section
variable {P : Program} {E : World0} {w : World} {H R : HP} {K : Value → World → Prop}
theorem rds_row {b e n c : Nat} {xs sp : List Value} {fr : Nat × Nat} [hb : Has H b (.cells (xs ++ sp).toArray e fr)] (hc : n ≤ c) : Rds H (.slice (some ⟨b, 0, none⟩) n c) n xs := fun E w hs =>
  ⟨_, c, rfl, hc, .inr ⟨b, 0, _, _, _, rfl, hb.get hs, fun j v hj => by
    have hlt := (List.getElem?_eq_some_iff.1 hj).1
    simpa [List.getElem?_append_left hlt] using hj⟩⟩
/-- []byte(s). -/
theorem conv_sb (h : sat E w H) {s d e n m : TypeId} {z : Value} [i : Ul P s .string] [j : SliceT P d e n m z] [q : Ul P e (.int .u8)] {l : List UInt8}
    (k : ∀ b c sp fr w', sat E w' (pts b (.cells (l.map bv ++ sp).toArray e fr) * H) → l.length ≤ c → K (.slice (some ⟨b, 0, none⟩) l.length c) w') : efv P (convert s d (tv l)) w K := by
  have hsz : (⟨l.toArray⟩ : ByteArray).size = l.length := by simp [ByteArray.size]
  have hr := run_bytes_of_string (P := P) w s d e ⟨l.toArray⟩ i.ul j.ul q.ul
  rw [hsz] at hr
  have hge : l.length ≤ grownCap w l.length 0 e := grownCap_ge w l.length 0 e
  have e1 : bytesRow ⟨l.toArray⟩ (grownCap w l.length 0 e) = (l.map bv ++ List.replicate (grownCap w l.length 0 e - l.length) (Value.int .u8 0)).toArray := by
    apply Array.ext'
    simp [bytesRow, bv, ByteArray.size]
  rw [e1] at hr
  exact efv_of hr (k _ _ _ _ _ (h.drew.alloc _) hge)
/-- A block's mark. -/
theorem sat.setO {b : Nat} {o : Obj} (h : sat E w (pts b o * R)) (o' : Obj) {w' : World} (hw : w' = w.putObj b o') : sat E w' (pts b o' * R) := by subst hw; exact h.set o'
theorem freeze_put {b n : Nat} {xs : Array Value} {e : TypeId} {o : Nat} (h : w.heap[b]? = some (.cells xs e (0, 0))) (hn : n ≠ 0) : w.freeze ⟨b, o, none⟩ n = w.putObj b (.cells xs e (o, o + n)) := by
  have hlt := (Array.getElem?_eq_some_iff.1 h).1
  unfold World.freeze World.putObj
  rw [if_neg hn]
  congr 1
  refine Array.ext_getElem? fun i => ?_
  rw [Array.getElem?_modify, Array.getElem?_setIfInBounds]
  by_cases hi : b = i
  · subst hi
    have hx : w.heap[b] = .cells xs e (0, 0) := (Array.getElem?_eq_some_iff.1 h).2
    simp [hlt, hx]
  · simp [hi]
theorem conv_const (h : sat E w H) {t e n m : TypeId} {z : Value} [i : SliceT P t e n m z] [q : Ul P e (.int .u8)] {b l c : Nat} {xs : Array Value} [s : Own H b (.cells xs e (0, 0)) R]
    (k : ∀ fr w', sat E w' (pts b (.cells xs e fr) * R) → K (.slice (some ⟨b, 0, none⟩) l c) w') : efv P (convert t t (.slice (some ⟨b, 0, none⟩) l c)) w K := by
  have hs := h.own b
  have hb := hs.pts_get
  have hsh : w.shape? b = some (e, xs.size) := by simp [World.shape?, hb]
  refine efv_of (v := .slice (some ⟨b, 0, none⟩) l c) (w' := w.freeze ⟨b, xs.size, none⟩ 1) ?_ (k _ _ (hs.setO _ (freeze_put hb (by decide))))
  simp [convert, run_underlying' i.ul, run_underlying' q.ul, markStringish, hsh]
theorem o_catT {t : TypeId} {a b : List UInt8} (hl : a.length + b.length ≤ 9223372036854775807) : pvv P (binOp .add t (tv a) (tv b)) w K = K (tv (a ++ b)) w := pvv_eq fun w => by
  have h1 : ¬ (9223372036854775807 : Int) < ((a.length : Int) + (b.length : Int)) := by omega
  have hm : IntKind.i64.max = 9223372036854775807 := rfl
  have h2 : ¬ ((((⟨a.toArray⟩ : ByteArray).size + (⟨b.toArray⟩ : ByteArray).size : Nat) : Int) > IntKind.i64.max) := by
    rw [hm]; simp only [ByteArray.size, List.size_toArray]; omega
  have e : (⟨a.toArray⟩ ++ ⟨b.toArray⟩ : ByteArray) = ⟨(a ++ b).toArray⟩ := by
    apply ByteArray.ext
    simp
  unfold tv
  simp only [binOp, Op.stringOp]
  rw [if_neg h2, e]
  rfl
theorem o_indexT {t : TypeId} [i : Ul P t .string] {l : List UInt8} {k : IntKind} {x : Int} (h0 : 0 ≤ x) (h1 : x.toNat < l.length) : pvv P (Instr.index t (tv l) (.int k x)) w K = K (bv (l.getD x.toNat 0)) w := by
  have hs : x.toNat < (⟨l.toArray⟩ : ByteArray).size := by simpa [ByteArray.size] using h1
  have e : (⟨l.toArray⟩ : ByteArray)[x.toNat]'hs = l.getD x.toNat 0 := by
    have e2 : (⟨l.toArray⟩ : ByteArray)[x.toNat]'hs = l[x.toNat]'h1 := rfl
    rw [e2, List.getD_eq_getElem?_getD, List.getElem?_eq_getElem h1]; rfl
  unfold tv
  rw [o_indexS h0 hs, e]
  rfl
theorem o_sliceT {t : TypeId} [i : Ul P t .string] {l : List UInt8} {k k' : IntKind} {x y : Int} (h0 : 0 ≤ x) (h1 : x ≤ y) (h2 : y ≤ l.length) :
    pvv P (Instr.sliceAt t (tv l) (some (.int k x)) (some (.int k' y)) none) w K = K (tv ((l.drop x.toNat).take (y.toNat - x.toNat))) w := pvv_eq fun w => by
  obtain ⟨x, rfl⟩ := Int.eq_ofNat_of_zero_le h0
  obtain ⟨y, rfl⟩ := Int.eq_ofNat_of_zero_le (show 0 ≤ y by omega)
  have h1' : x ≤ y := by omega
  have h2' : y ≤ l.length := by omega
  have e : (⟨l.toArray⟩ : ByteArray).extract x y = ⟨((l.drop x).take (y - x)).toArray⟩ := by
    apply ByteArray.ext
    simp [ByteArray.data_extract, List.drop_take]
  have hsz : (⟨l.toArray⟩ : ByteArray).size = l.length := by simp [ByteArray.size]
  unfold tv
  rw [Int.toNat_natCast, Int.toNat_natCast, ← e]
  simp [Instr.sliceAt, Instr.slice, Instr.sliceBounds, Instr.sliceBound, asIntOf, run_underlying' i.ul, hsz, h1', h2']
/-- A call of a function without a body that the model carries out at once. -/
theorem ef_ext {f : FuncId} {args : Array Value} {v : Value} (hr : ∀ w, (oCall (.func (.func f) #[] #[]) args).run P w = .ok (.value v) w) (k : K v w) : ef P (oCall (.func (.func f) #[] #[]) args) w K := ef_of (hr w) k
theorem unsafe_data {t u : TypeId} {cs : Array Bool} {a : Addr} {n c : Nat} (hc : c ≠ 0) (k : K (.pointer (some a)) w) : ef P (oBi .unsafeSliceData #[t] u cs #[.slice (some a) n c]) w K := by
  refine ef_of (v := .pointer (some a)) (w' := w) ?_ k
  have := Lib.run_unsafeSliceData_row (P := P) (w := w) #[t] u a n c hc
  simp [oBi, builtin, this]
theorem unsafe_str (h : sat E w H) {pt it ty e : TypeId} {cs : Array Bool} [i : Ul P pt (.pointer e)] (hce : P.cellsOf e = 1) {b : Nat} {l : List UInt8} {sp : List Value} [s : Own H b (.cells (l.map bv ++ sp).toArray e (0, 0)) R] (h0 : l ≠ []) (h63 : l.length ≤ 9223372036854775807)
    (k : ∀ fr w', sat E w' (pts b (.cells (l.map bv ++ sp).toArray e fr) * R) → K (tv l) w') : ef P (oBi .unsafeString #[pt, it] ty cs #[.pointer (some ⟨b, 0, none⟩), .int .i64 l.length]) w K := by
  have hs := h.own b
  have hb := hs.pts_get
  have hl : l.length ≠ 0 := by simpa using h0
  have hr := Lib.run_unsafeString_row (P := P) (w := w) pt it ty e i.ul hce b _ (by simp [World.shape?, hb]; rfl) l h0 (by simp) h63 (fun j x hj => by
    rw [add_addr]
    have hlt := (List.getElem?_eq_some_iff.1 hj).1
    refine cell_of hb ?_
    simp [List.getElem?_append_left, hlt, bv]
    exact (List.getElem?_eq_some_iff.1 hj).2 ▸ rfl)
  refine ef_of (v := tv l) (w' := w.freeze ⟨b, 0, none⟩ l.length) ?_ (k _ _ (hs.setO _ (freeze_put hb hl)))
  simp [oBi, builtin, hr, tv]
theorem o_sliceT_l {t : TypeId} [i : Ul P t .string] {l : List UInt8} {k : IntKind} {x : Int} (h0 : 0 ≤ x) (h1 : x ≤ l.length) :
    pvv P (Instr.sliceAt t (tv l) (some (.int k x)) none none) w K = K (tv (l.drop x.toNat)) w := pvv_eq fun w => by
  obtain ⟨x, rfl⟩ := Int.eq_ofNat_of_zero_le h0
  have h1' : x ≤ l.length := by omega
  have e : (⟨l.toArray⟩ : ByteArray).extract x l.length = ⟨(l.drop x).toArray⟩ := by
    apply ByteArray.ext
    simp [ByteArray.data_extract]
    exact List.take_of_length_le (by simp)
  have hsz : (⟨l.toArray⟩ : ByteArray).size = l.length := by simp [ByteArray.size]
  unfold tv
  rw [Int.toNat_natCast, ← e]
  simp [Instr.sliceAt, Instr.slice, Instr.sliceBounds, Instr.sliceBound, asIntOf, run_underlying' i.ul, hsz, h1']
theorem o_sliceT_h {t : TypeId} [i : Ul P t .string] {l : List UInt8} {k : IntKind} {x : Int} (h0 : 0 ≤ x) (h1 : x ≤ l.length) :
    pvv P (Instr.sliceAt t (tv l) none (some (.int k x)) none) w K = K (tv (l.take x.toNat)) w := pvv_eq fun w => by
  obtain ⟨x, rfl⟩ := Int.eq_ofNat_of_zero_le h0
  have h1' : x ≤ l.length := by omega
  have e : (⟨l.toArray⟩ : ByteArray).extract 0 x = ⟨(l.take x).toArray⟩ := by
    apply ByteArray.ext
    simp [ByteArray.data_extract]
  have hsz : (⟨l.toArray⟩ : ByteArray).size = l.length := by simp [ByteArray.size]
  unfold tv
  rw [Int.toNat_natCast, ← e]
  simp [Instr.sliceAt, Instr.slice, Instr.sliceBounds, Instr.sliceBound, asIntOf, run_underlying' i.ul, hsz, h1']
/-- The order of texts. -/
def lexB : List UInt8 → List UInt8 → Bool
  | [], [] => false
  | [], _ :: _ => true
  | _ :: _, [] => false
  | a :: as, b :: bs => if a = b then lexB as bs else decide (a < b)
theorem bytesLess_lexB : ∀ a b : List UInt8, Op.bytesLess a b = lexB a b
  | [], [] => rfl
  | [], _ :: _ => rfl
  | _ :: _, [] => rfl
  | a :: as, b :: bs => by
    have ih := bytesLess_lexB as bs
    unfold Op.bytesLess lexB
    rw [ih]
    by_cases h : a = b
    · subst h; simp
    · by_cases h2 : a < b <;> simp [h, h2]
theorem o_lssT {t : TypeId} {a b : List UInt8} : pvv P (binOp .lss t (tv a) (tv b)) w K = K (.bool (lexB a b)) w := pvv_eq fun w => by
  have : (⟨a.toArray⟩ : ByteArray).toList = a ∧ (⟨b.toArray⟩ : ByteArray).toList = b := by simp [ByteArray.toList_eq]
  simp only [binOp, Op.stringOp, tv, this.1, this.2, bytesLess_lexB]
  rfl
end
end Hold
