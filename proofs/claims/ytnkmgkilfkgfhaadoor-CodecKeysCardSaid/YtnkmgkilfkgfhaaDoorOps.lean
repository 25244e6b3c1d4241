/-
  Short names for the operations, as the printed bodies use them.
-/
import Derived.Test.YtnkmgkilfkgfhaaDoorDen
set_option linter.all false
namespace Hold
open Go

def vN (s : Sem Value) : Sem Next := do pure (.value (← s))
def uN (s : Sem Unit) : Sem Next := do s; pure .skip
def pvv (P : Program) (s : Sem Value) (w : World) (K : Value → World → Prop) : Prop := pv P (vN s) w K
def ldv (P : Program) (s : Sem Value) (w : World) (K : Value → World → Prop) : Prop := ld P (vN s) w K
def efv (P : Program) (s : Sem Value) (w : World) (K : Value → World → Prop) : Prop := ef P (vN s) w K
def efu (P : Program) (s : Sem Unit) (w : World) (K : Value → World → Prop) : Prop := ef P (uN s) w K
def stv (P : Program) (g : Gd) (s : Sem Value) (v : Value) (w : World) (A : Prop) : Prop := stay P g (vN s) v w A
def oPick (c a b : Value) : Sem Next := do pure (.value (if ← asBool c then a else b))
def oNil (x : Value) : Sem Next :=
  match x with
  | .pointer none | .nilIface | .nilFunc => runtimePanic .nilDeref
  | .func (.method name) first captured =>
    match (first[0]? : Option Value) with
    | some .nilIface => runtimePanic .nilDeref
    | some (.iface t w) => do
      if (← nilAhead ((← program).types.size + Made.depth) t w name) != some false then
        unsupported (.noEntry "op/nilCheck.the method's receiver behind this interface value is a nil pointer, or cannot be seen to be none, and the arguments act or may panic (ledger 612)")
      pure (.value (.func (.method name) first captured))
    | _ => pure (.value (.func (.method name) first captured))
  | x => pure (.value x)
def oEq (op : BinOp) (t : TypeId) (x y : Operand) (a b : Value) : Sem Value := do eqGuard op t x y a b; binOp op t a b
def oBi (b : Builtin) (argTypes : Array TypeId) (type : TypeId) (consts : Array Bool) (args : Array Value) : Sem Next := builtin b argTypes type consts args

end Hold
