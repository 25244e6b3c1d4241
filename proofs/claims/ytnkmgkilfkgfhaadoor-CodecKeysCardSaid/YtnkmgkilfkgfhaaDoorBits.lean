/-
  Words of 32 bits, and bytes: their operations.
-/
import Derived.Test.YtnkmgkilfkgfhaaDoorStr
set_option linter.all false
namespace Hold
open Go
/-- A word as the model has it. -/
def wv (x : UInt32) : Value := .int .u32 x.toNat
section
variable {P : Program} {w : World} {K : Value → World → Prop}
theorem ofInt32 (a : UInt32) : BitVec.ofInt 32 (a.toNat : Int) = a.toBitVec := by
  apply BitVec.eq_of_toNat_eq; simp
theorem ofInt8 (a : UInt8) : BitVec.ofInt 8 (a.toNat : Int) = a.toBitVec := by
  apply BitVec.eq_of_toNat_eq; simp
theorem wrapW (a : UInt32) : IntKind.u32.wrap (a.toNat : Int) = a.toNat := by
  have := a.toNat_lt
  rw [IntKind.wrap_u32]; omega
theorem wrapB (a : UInt8) : IntKind.u8.wrap (a.toNat : Int) = a.toNat := by
  have := a.toNat_lt
  rw [IntKind.wrap_u8]; omega
theorem o_xorW {t : TypeId} {a b : UInt32} : pvv P (binOp .xor t (wv a) (wv b)) w K = K (wv (a ^^^ b)) w := pvv_eq fun _ => by
  simp only [binOp, Op.intBits, wv, IntKind.bits, ofInt32]
  simp
  exact (wrapW (a ^^^ b)).trans (by simp)
theorem o_andW {t : TypeId} {a b : UInt32} : pvv P (binOp .and t (wv a) (wv b)) w K = K (wv (a &&& b)) w := pvv_eq fun _ => by
  simp only [binOp, Op.intBits, wv, IntKind.bits, ofInt32]
  simp
  exact (wrapW (a &&& b)).trans (by simp)
theorem o_orW {t : TypeId} {a b : UInt32} : pvv P (binOp .or t (wv a) (wv b)) w K = K (wv (a ||| b)) w := pvv_eq fun _ => by
  simp only [binOp, Op.intBits, wv, IntKind.bits, ofInt32]
  simp
  exact (wrapW (a ||| b)).trans (by simp)
theorem o_addW {t : TypeId} {a b : UInt32} : pvv P (binOp .add t (wv a) (wv b)) w K = K (wv (a + b)) w := by
  unfold wv
  rw [o_add, IntKind.wrap_u32]
  congr 2
theorem o_shrW {t : TypeId} {a : UInt32} {k : IntKind} {n : Nat} (hn : n < 32) : pvv P (binOp .shr t (wv a) (.int k n)) w K = K (wv (a >>> UInt32.ofNat n)) w := pvv_eq fun _ => by
  have h0 : ¬ ((n : Int) < 0) := by omega
  have hm : min n 32 = n := by omega
  simp only [binOp, Op.shift, wv, h0, if_false, Int.toNat_natCast, IntKind.bits, hm]
  simp only [Sem.run_pure]
  congr 2
  rw [UInt32.toNat_shiftRight]
  have : (UInt32.ofNat n).toNat % 32 = n := by simp; omega
  rw [this, Nat.shiftRight_eq_div_pow]
  have h2 : ((2 : Int) ^ n) = ((2 ^ n : Nat) : Int) := by simp
  rw [h2, Int.fdiv_eq_ediv_of_nonneg _ (Int.natCast_nonneg _)]
  simp
theorem o_shlW {t : TypeId} {a : UInt32} {k : IntKind} {n : Nat} (hn : n < 32) : pvv P (binOp .shl t (wv a) (.int k n)) w K = K (wv (a <<< UInt32.ofNat n)) w := pvv_eq fun _ => by
  have h0 : ¬ ((n : Int) < 0) := by omega
  have hm : min n 32 = n := by omega
  simp only [binOp, Op.shift, wv, h0, if_false, Int.toNat_natCast, IntKind.bits, hm]
  simp only [Sem.run_pure]
  congr 2
  rw [UInt32.toNat_shiftLeft, IntKind.wrap_u32]
  have : (UInt32.ofNat n).toNat % 32 = n := by simp; omega
  rw [this, Nat.shiftLeft_eq]
  simp
end
end Hold
