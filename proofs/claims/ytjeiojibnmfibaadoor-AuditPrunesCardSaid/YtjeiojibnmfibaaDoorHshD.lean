/-
  SHA-256, as the code reckons it.
-/
import Derived.Test.YtjeiojibnmfibaaDoorHshC
set_option linter.all false
set_option maxRecDepth 10000
namespace Go.Proofs.YtjeiojibnmfibaaDoor
open Go Hold
def word (b : List UInt8) (i : Nat) : UInt32 :=
  (((b.getD (4 * i) 0).toUInt32 <<< UInt32.ofNat 24 ||| (b.getD (4 * i + 1) 0).toUInt32 <<< UInt32.ofNat 16) ||| (b.getD (4 * i + 2) 0).toUInt32 <<< UInt32.ofNat 8) ||| (b.getD (4 * i + 3) 0).toUInt32
def wNext (w : List UInt32) (i : Nat) : UInt32 :=
  w.getD (i - 16) 0 + ((rotr (w.getD (i - 15) 0) 7 ^^^ rotr (w.getD (i - 15) 0) 18) ^^^ w.getD (i - 15) 0 >>> UInt32.ofNat 3) + w.getD (i - 7) 0 + ((rotr (w.getD (i - 2) 0) 17 ^^^ rotr (w.getD (i - 2) 0) 19) ^^^ w.getD (i - 2) 0 >>> UInt32.ofNat 10)
def sched (b : List UInt8) : Nat → List UInt32
  | 0 => []
  | i + 1 => sched b i ++ [if i < 16 then word b i else wNext (sched b i) i]
theorem sched_length (b : List UInt8) : ∀ n, (sched b n).length = n
  | 0 => rfl
  | n + 1 => by simp [sched, sched_length b n]
structure St where
  (a b c d e f g h : UInt32)
def St.list (v : St) : List UInt32 := [v.a, v.b, v.c, v.d, v.e, v.f, v.g, v.h]
def big1 (e : UInt32) : UInt32 := (rotr e 6 ^^^ rotr e 11) ^^^ rotr e 25
def big0 (a : UInt32) : UInt32 := (rotr a 2 ^^^ rotr a 13) ^^^ rotr a 22
def tOf (k w : UInt32) (v : St) : UInt32 := v.h + big1 v.e + (v.g ^^^ (v.e &&& (v.f ^^^ v.g))) + k + w
def uOf (v : St) : UInt32 := big0 v.a + ((v.a &&& v.b) ||| (v.c &&& (v.a ||| v.b)))
def round (k w : UInt32) (v : St) : St := ⟨tOf k w v + uOf v, v.a, v.b, v.c, v.d + tOf k w v, v.e, v.f, v.g⟩
def rounds (ks ws : List UInt32) (v : St) : Nat → St
  | 0 => v
  | n + 1 => round (ks.getD n 0) (ws.getD n 0) (rounds ks ws v n)
def St.add (x y : St) : St := ⟨x.a + y.a, x.b + y.b, x.c + y.c, x.d + y.d, x.e + y.e, x.f + y.f, x.g + y.g, x.h + y.h⟩
def mix (ks : List UInt32) (st : St) (b : List UInt8) : St := st.add (rounds ks (sched b 64) st 64)
end Go.Proofs.YtjeiojibnmfibaaDoor
