/-
  Links of a chain, the reference's.
-/
import Derived.Test.YtjeiojibnmfibaaDoorHshN
set_option linter.all false
set_option maxRecDepth 10000
namespace Go.Proofs.YtjeiojibnmfibaaDoor
open Go Hold
variable {E : World0} {w : World} {H R : HP} {K : Value → World → Prop}
theorem RChain_spec (h : sat E w H) {l b : List UInt8} (hl : l.length = 32) {v : Value} (hb : Rds H v b.length (b.map bv)) (hbl : b.length + 32 ≤ 140737488355000) (k : ∀ w', sat E w' H → K (.agg ((sha (l ++ b)).map bv).toArray) w') : Calls prog 42 #[.agg (l.map bv).toArray, v] w (Ret K) := by
  obtain ⟨a, c, rfl, hc, hb, ha⟩ := hb.shape h
  refine c42 ?_
  unfold B42
  refine box_sl h fun b1 w h => ?_
  have h : sat E w (pts b1 (.cells (l.map bv).toArray 36 (0, 0)) * H) := h
  refine alloc_sl h fun b2 w h => ?_
  have h : sat E w (pts b2 (.cells ((List.replicate 32 (0 : UInt8)).map bv).toArray 36 (0, 0)) * (pts b1 (.cells (l.map bv).toArray 36 (0, 0)) * H)) := h
  refine ld_agg (b := b1) h (by simpa using hl) ?_
  refine bytesOf_spec h hl fun v3 w h => ?_
  refine append_sl (v := v3) h (b.map bv) (by simp) (hb.win h.drop.drop.drop) (bv_one b) (by omega) (by omega) fun v4 w h => ?_
  have hr : Rds (osl 5 1 v4 (32 + b.length) (l.map bv ++ b.map bv) * (pts b2 (.cells ((List.replicate 32 (0 : UInt8)).map bv).toArray 36 (0, 0)) * (pts b1 (.cells (l.map bv).toArray 36 (0, 0)) * H))) v4 (l ++ b).length ((l ++ b).map bv) := by
    rw [List.length_append, hl, List.map_append]; exact Rds.osl.left
  refine RSum_spec (b := l ++ b) h hr (by simp; omega) fun w h => ?_
  exact hash_ret (b := b2) h (sha_length _) (by simp) fun w h => k _ h.drop.drop.drop
end Go.Proofs.YtjeiojibnmfibaaDoor
