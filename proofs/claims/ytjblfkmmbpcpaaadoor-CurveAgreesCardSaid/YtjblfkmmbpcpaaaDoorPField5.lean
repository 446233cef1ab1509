/-
  PLAIN (own work), FIELD PART 5: products of words; sums of two words.
-/
import Derived.Test.YtjblfkmmbpcpaaaDoorPField2
namespace Go.Proofs.YtjblfkmmbpcpaaaDoor
set_option linter.unusedSimpArgs false
set_option linter.unusedVariables false
set_option linter.unusedSectionVars false
open Go Go.LW

/-! ### one product -/
def mhi (x y : BitVec 64) : BitVec 64 :=
  ((((x >>> 32) * (y >>> 32)) + ((((x >>> 32) * (y &&& (4294967295#64))) + (((x &&& (4294967295#64)) * (y &&& (4294967295#64))) >>> 32)) >>> 32)) + ((((((x >>> 32) * (y &&& (4294967295#64))) + (((x &&& (4294967295#64)) * (y &&& (4294967295#64))) >>> 32)) &&& (4294967295#64)) + ((x &&& (4294967295#64)) * (y >>> 32))) >>> 32))
theorem mul64_ok (x y : BitVec 64) : bits_Mul64 x y (mhi x y, x * y) := rfl
theorem and32 (x : BitVec 64) : (x &&& 4294967295#64).toNat = x.toNat % 2 ^ 32 := by
  rw [BitVec.toNat_and, show (4294967295#64).toNat = 2 ^ 32 - 1 by decide, Nat.and_two_pow_sub_one_eq_mod]
theorem mulT {x y : BitVec 64} (h : x.toNat * y.toNat < 2 ^ 64) : (x * y).toNat = x.toNat * y.toNat := by rw [BitVec.toNat_mul, Nat.mod_eq_of_lt h]
theorem addT {x y : BitVec 64} (h : x.toNat + y.toNat < 2 ^ 64) : (x + y).toNat = x.toNat + y.toNat := by rw [BitVec.toNat_add, Nat.mod_eq_of_lt h]
theorem prod32 {a b : Nat} (ha : a < 2 ^ 32) (hb : b < 2 ^ 32) : a * b ≤ (2 ^ 32 - 1) * (2 ^ 32 - 1) := Nat.mul_le_mul (by omega) (by omega)
theorem mhi_num (x y : BitVec 64) : (mhi x y).toNat * 2 ^ 64 + (x * y).toNat = x.toNat * y.toNat := by
  have hx := x.isLt
  have hy := y.isLt
  have a1 : (x >>> 32).toNat = x.toNat / 2 ^ 32 := shr_toNat x 32
  have b1 : (y >>> 32).toNat = y.toNat / 2 ^ 32 := shr_toNat y 32
  have a0 := and32 x
  have b0 := and32 y
  have hxx : x.toNat = x.toNat / 2 ^ 32 * 2 ^ 32 + x.toNat % 2 ^ 32 := by omega
  have hyy : y.toNat = y.toNat / 2 ^ 32 * 2 ^ 32 + y.toNat % 2 ^ 32 := by omega
  have hA1 : x.toNat / 2 ^ 32 < 2 ^ 32 := by omega
  have hB1 : y.toNat / 2 ^ 32 < 2 ^ 32 := by omega
  have hA0 : x.toNat % 2 ^ 32 < 2 ^ 32 := by omega
  have hB0 : y.toNat % 2 ^ 32 < 2 ^ 32 := by omega
  have hprod : x.toNat * y.toNat = (x.toNat / 2 ^ 32 * (y.toNat / 2 ^ 32)) * 2 ^ 64 + (x.toNat / 2 ^ 32 * (y.toNat % 2 ^ 32)) * 2 ^ 32 + (x.toNat % 2 ^ 32 * (y.toNat / 2 ^ 32)) * 2 ^ 32 + x.toNat % 2 ^ 32 * (y.toNat % 2 ^ 32) := by
    conv => lhs; rw [hxx, hyy]
    generalize x.toNat / 2 ^ 32 = p
    generalize x.toNat % 2 ^ 32 = q
    generalize y.toNat / 2 ^ 32 = r
    generalize y.toNat % 2 ^ 32 = s
    rw [Nat.add_mul, Nat.mul_add, Nat.mul_add, show p * 2 ^ 32 * (r * 2 ^ 32) = p * r * 2 ^ 64 by rw [Nat.mul_mul_mul_comm], show p * 2 ^ 32 * s = p * s * 2 ^ 32 by rw [Nat.mul_right_comm], show q * (r * 2 ^ 32) = q * r * 2 ^ 32 by rw [Nat.mul_assoc]]
    omega
  have p11 := prod32 hA1 hB1
  have p10 := prod32 hA1 hB0
  have p01 := prod32 hA0 hB1
  have p00 := prod32 hA0 hB0
  have w0 : ((x &&& (4294967295#64)) * (y &&& (4294967295#64))).toNat = x.toNat % 2 ^ 32 * (y.toNat % 2 ^ 32) := by rw [mulT (by rw [a0, b0]; omega), a0, b0]
  have w10 : ((x >>> 32) * (y &&& (4294967295#64))).toNat = x.toNat / 2 ^ 32 * (y.toNat % 2 ^ 32) := by rw [mulT (by rw [a1, b0]; omega), a1, b0]
  have w01 : ((x &&& (4294967295#64)) * (y >>> 32)).toNat = x.toNat % 2 ^ 32 * (y.toNat / 2 ^ 32) := by rw [mulT (by rw [a0, b1]; omega), a0, b1]
  have w11 : ((x >>> 32) * (y >>> 32)).toNat = x.toNat / 2 ^ 32 * (y.toNat / 2 ^ 32) := by rw [mulT (by rw [a1, b1]; omega), a1, b1]
  have hlo : (x * y).toNat = (x.toNat * y.toNat) % 2 ^ 64 := BitVec.toNat_mul _ _
  rw [hlo]
  unfold mhi
  generalize (x >>> 32) * (y >>> 32) = v11 at *
  generalize (x >>> 32) * (y &&& (4294967295#64)) = v10 at *
  generalize (x &&& (4294967295#64)) * (y >>> 32) = v01 at *
  generalize (x &&& (4294967295#64)) * (y &&& (4294967295#64)) = v00 at *
  have t1 : (v10 + (v00 >>> 32)).toNat = v10.toNat + v00.toNat / 2 ^ 32 := by rw [addT (by rw [shr_toNat]; omega), shr_toNat]
  generalize v10 + (v00 >>> 32) = t at *
  have t2 : ((t &&& 4294967295#64) + v01).toNat = t.toNat % 2 ^ 32 + v01.toNat := by rw [addT (by rw [and32]; omega), and32]
  generalize (t &&& 4294967295#64) + v01 = u at *
  have t3 : (v11 + (t >>> 32)).toNat = v11.toNat + t.toNat / 2 ^ 32 := by rw [addT (by rw [shr_toNat]; omega), shr_toNat]
  generalize v11 + (t >>> 32) = s at *
  have t4 : (s + (u >>> 32)).toNat = s.toNat + u.toNat / 2 ^ 32 := by rw [addT (by rw [shr_toNat]; omega), shr_toNat]
  rw [t4, hprod]
  rw [← w11, ← w10, ← w01, ← w0]
  omega
end Go.Proofs.YtjblfkmmbpcpaaaDoor
