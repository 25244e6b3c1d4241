/-
  SHA-256 of bytes, as plain functions, and what they say of each other.
-/
import Derived.Test.YtjeiojibnmfibaaDoorHshH
set_option linter.all false
set_option maxRecDepth 10000
namespace Go.Proofs.YtjeiojibnmfibaaDoor
open Go Hold
def K0 : List UInt32 := [1116352408, 1899447441, 3049323471, 3921009573, 961987163, 1508970993, 2453635748, 2870763221, 3624381080, 310598401, 607225278, 1426881987, 1925078388, 2162078206, 2614888103, 3248222580, 3835390401, 4022224774, 264347078, 604807628, 770255983, 1249150122, 1555081692, 1996064986, 2554220882, 2821834349, 2952996808, 3210313671, 3336571891, 3584528711, 113926993, 338241895, 666307205, 773529912, 1294757372, 1396182291, 1695183700, 1986661051, 2177026350, 2456956037, 2730485921, 2820302411, 3259730800, 3345764771, 3516065817, 3600352804, 4094571909, 275423344, 430227734, 506948616, 659060556, 883997877, 958139571, 1322822218, 1537002063, 1747873779, 1955562222, 2024104815, 2227730452, 2361852424, 2428436474, 2756734187, 3204031479, 3329325298]
def st0 : St := ⟨1779033703, 3144134277, 1013904242, 2773480762, 1359893119, 2600822924, 528734635, 1541459225⟩
def fold (st : St) (m : List UInt8) : Nat → St
  | 0 => st
  | n + 1 => mix K0 (fold st m n) (m.drop (64 * n))
def lenBytes (n : Nat) : List UInt8 := (List.range 8).map fun i => UInt8.ofNat (n * 8 % 18446744073709551616 / 2 ^ (56 - 8 * i))
def padded (b : List UInt8) : List UInt8 := b ++ [128] ++ List.replicate ((119 - b.length % 64) % 64) 0 ++ lenBytes b.length
def digest4 (w : UInt32) : List UInt8 := [(w >>> UInt32.ofNat 24).toUInt8, (w >>> UInt32.ofNat 16).toUInt8, (w >>> UInt32.ofNat 8).toUInt8, w.toUInt8]
def digest (st : St) : List UInt8 := st.list.flatMap digest4
def sha (b : List UInt8) : List UInt8 := digest (fold st0 (padded b) ((padded b).length / 64))
theorem getD_take {l : List UInt8} {n i : Nat} (h : i < n) : (l.take n).getD i 0 = l.getD i 0 := by
  simp [List.getD_eq_getElem?_getD, List.getElem?_take, h]
theorem word_take {b : List UInt8} {i : Nat} (h : i < 16) : word (b.take 64) i = word b i := by
  unfold word
  rw [getD_take (by omega), getD_take (by omega), getD_take (by omega), getD_take (by omega)]
theorem sched_take {b : List UInt8} : ∀ n, sched (b.take 64) n = sched b n
  | 0 => rfl
  | n + 1 => by
    simp only [sched, sched_take n]
    by_cases h : n < 16
    · rw [if_pos h, if_pos h, word_take h]
    · rw [if_neg h, if_neg h]
theorem mix_take (ks : List UInt32) (st : St) (b : List UInt8) : mix ks st b = mix ks st (b.take 64) := by
  unfold mix; rw [sched_take]
theorem fold_congr {st : St} {a b : List UInt8} : ∀ {n : Nat}, a.take (64 * n) = b.take (64 * n) → fold st a n = fold st b n
  | 0, _ => rfl
  | n + 1, h => by
    have h1 : a.take (64 * n) = b.take (64 * n) := by
      have := congrArg (List.take (64 * n)) h
      rw [List.take_take, List.take_take] at this
      have e : min (64 * n) (64 * (n + 1)) = 64 * n := by omega
      rwa [e] at this
    have h2 : (a.drop (64 * n)).take 64 = (b.drop (64 * n)).take 64 := by
      have := congrArg (List.drop (64 * n)) h
      rw [List.drop_take, List.drop_take] at this
      have e : 64 * (n + 1) - 64 * n = 64 := by omega
      rwa [e] at this
    simp only [fold]
    rw [fold_congr h1, mix_take, h2, ← mix_take]
theorem fold_add (st : St) (m : List UInt8) (a : Nat) : ∀ k, fold (fold st m a) (m.drop (64 * a)) k = fold st m (a + k)
  | 0 => rfl
  | k + 1 => by
    rw [← Nat.add_assoc]
    simp only [fold]
    rw [fold_add st m a k, List.drop_drop, Nat.mul_add]
theorem lenBytes_length (n : Nat) : (lenBytes n).length = 8 := rfl
theorem padded_length (b : List UInt8) : (padded b).length % 64 = 0 := by
  simp [padded, lenBytes_length]; omega
theorem digest_length (st : St) : (digest st).length = 32 := rfl
theorem sha_length (b : List UInt8) : (sha b).length = 32 := digest_length _
end Go.Proofs.YtjeiojibnmfibaaDoor
