/-
  Keys below a key; links of a chain, the reference's.
-/
import Derived.Test.YtjmgkfpjaelilaaDoorHshP
import Derived.Test.YtjmgkfpjaelilaaDoorCodD
import Derived.Test.YtjmgkfpjaelilaaDoorCard
set_option linter.all false
set_option maxRecDepth 10000
namespace Go.Proofs.YtjmgkfpjaelilaaDoor
open Go Hold
variable {E : World0} {w : World} {H R : HP} {K : Value → World → Prop}
def zeros32 : List UInt8 := List.replicate 32 0
def derive (k : List UInt8) (ls : List (List UInt8)) : List UInt8 × Int := if (key ls).2 = 0 then (tag k (key ls).1, 0) else (zeros32, (key ls).2)
theorem derive_length (k : List UInt8) (ls : List (List UInt8)) : (derive k ls).1.length = 32 := by
  unfold derive; split
  · exact tag_length _ _
  · rfl
theorem key_le (ls : List (List UInt8)) : (key ls).1.length ≤ 64 := by
  unfold key
  split
  · simp
  · split
    · split
      · simp
      · simp only; omega
    · simp
theorem hash_ret2 (h : sat E w H) {b : Nat} {l ol : List UInt8} {e : Int} (hl : l.length = 32) (hol : ol.length = 32) [Own H b (.cells (ol.map bv).toArray 23 (0, 0)) R]
    (k : ∀ w', sat E w' (pts b (.cells (l.map bv).toArray 23 (0, 0)) * R) → K (.tuple #[.agg (l.map bv).toArray, .int .i64 e]) w') :
    efu prog (Instr.storeAt 23 (.pointer (some ⟨b, 0, none⟩)) (.agg (l.map bv).toArray)) w fun _ w =>
      ∃ r, (do loadVar 23 (← asAddr (.pointer (some ⟨b, 0, none⟩)))).run prog w = .ok r w ∧ K (.tuple #[r, .int .i64 e]) w :=
  hash_ret (K := fun r w => K (.tuple #[r, .int .i64 e]) w) h hl hol k
theorem zeros_build {K : Value → World → Prop} (k : K (.agg (zeros32.map bv).toArray) w) : pvv prog (Instr.build 23 #[]) w K := pvv_of (fun w => by kernel_rfl) k
theorem Derive_spec (h : sat E w H) {l : List UInt8} (hl : l.length = 32) {v : Value} {ls : List (List UInt8)} (hp : Rds H v ls.length (ls.map tv))
    (k : ∀ w', sat E w' H → K (.tuple #[.agg ((derive l ls).1.map bv).toArray, .int .i64 (derive l ls).2]) w') : Calls prog 4 #[.agg (l.map bv).toArray, v] w (Ret K) := by
  refine c4 ?_
  unfold B4
  refine box_sl h fun b1 w h => ?_
  have h : sat E w (pts b1 (.cells (l.map bv).toArray 23 (0, 0)) * H) := h
  refine alloc_sl h fun b0 w h => ?_
  have h : sat E w (pts b0 (.cells (zeros32.map bv).toArray 23 (0, 0)) * (pts b1 (.cells (l.map bv).toArray 23 (0, 0)) * H)) := h
  refine Key_spec h hp.right.right fun v2 w h => ?_
  rw [o_extract, o_extract]
  rw [o_neInt]
  have hkl := key_le ls
  refine cd_dec' (fun heq => ?_) (fun hne => ?_)
  · have e : derive l ls = (tag l (key ls).1, 0) := by unfold derive; rw [if_pos heq]
    rw [e] at k
    rw [o_sliceA]
    refine Tag_spec h (key := l) (b := (key ls).1) (by rw [hl]; exact rds_block (b := b1) (Nat.le_refl _)) Rds.osl.left (by omega) (by omega) fun w h => ?_
    refine hash_ret2 (b := b0) h (tag_length _ _) (ol := zeros32) rfl fun w h => ?_
    exact k _ h.drop.drop.drop
  · have e : derive l ls = (zeros32, (key ls).2) := by unfold derive; rw [if_neg hne]
    rw [e] at k
    refine zeros_build ?_
    refine hash_ret2 (b := b0) h (l := zeros32) rfl (ol := zeros32) rfl fun w h => ?_
    exact k _ h.drop.drop.drop
theorem RDerive_spec (h : sat E w H) {l : List UInt8} (hl : l.length = 32) {v : Value} {ls : List (List UInt8)} (hp : Rds H v ls.length (ls.map tv))
    (k : ∀ w', sat E w' H → K (.tuple #[.agg ((derive l ls).1.map bv).toArray, .int .i64 (derive l ls).2]) w') : Calls prog 5 #[.agg (l.map bv).toArray, v] w (Ret K) := by
  refine c5 ?_
  unfold B5
  refine box_sl h fun b1 w h => ?_
  have h : sat E w (pts b1 (.cells (l.map bv).toArray 23 (0, 0)) * H) := h
  refine alloc_sl h fun b0 w h => ?_
  have h : sat E w (pts b0 (.cells (zeros32.map bv).toArray 23 (0, 0)) * (pts b1 (.cells (l.map bv).toArray 23 (0, 0)) * H)) := h
  refine RKey_spec h hp.right.right fun v2 w h => ?_
  rw [o_extract, o_extract]
  rw [o_neInt]
  have hkl := key_le ls
  refine cd_dec' (fun heq => ?_) (fun hne => ?_)
  · have e : derive l ls = (tag l (key ls).1, 0) := by unfold derive; rw [if_pos heq]
    rw [e] at k
    refine ld_agg (b := b1) h (by simpa using hl) ?_
    refine bytesOf_spec h hl fun v3 w h => ?_
    refine RTag_spec h (key := l) (b := (key ls).1) (by rw [hl]; exact Rds.osl.left) Rds.osl.left.right (by omega) (by omega) fun w h => ?_
    refine hash_ret2 (b := b0) h (tag_length _ _) (ol := zeros32) rfl fun w h => ?_
    exact k _ h.drop.drop.drop.drop
  · have e : derive l ls = (zeros32, (key ls).2) := by unfold derive; rw [if_neg hne]
    rw [e] at k
    refine zeros_build ?_
    refine hash_ret2 (b := b0) h (l := zeros32) rfl (ol := zeros32) rfl fun w h => ?_
    exact k _ h.drop.drop.drop
theorem eq23 {a b : List UInt8} (ha : a.length = 32) (hb : b.length = 32) {xo yo : Operand} {K : Value → World → Prop} : pvv prog (oEq .eql 23 xo yo (.agg (a.map bv).toArray) (.agg (b.map bv).toArray)) w K = K (.bool (a == b)) w := o_eqArr (n := 32) (by kernel_rfl) ha hb
end Go.Proofs.YtjmgkfpjaelilaaDoor
