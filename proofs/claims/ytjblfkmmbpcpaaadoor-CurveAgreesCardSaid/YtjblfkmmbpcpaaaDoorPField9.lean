/-
  PLAIN (own work), FIELD PART 9: exponents; inverses.
-/
import Derived.Test.YtjblfkmmbpcpaaaDoorPField8
namespace Go.Proofs.YtjblfkmmbpcpaaaDoor
set_option linter.unusedSimpArgs false
set_option linter.unusedVariables false
set_option linter.unusedSectionVars false
open Go Go.LW
set_option maxRecDepth 10000

theorem numB_single (n : BitVec 8) : numB (upd (fun _ => 0#8) 0 n) 32 = n.toNat := by
  have h1 := numB_split (upd (fun _ => 0#8) 0 n) 1 31
  have h2 : numB (fun q => upd (fun _ => 0#8) 0 n (1 + q)) 31 = numB (fun _ => 0#8) 31 := numB_congr' 31 fun q hq => upd_ne _ _ _ _ (by omega)
  have h3 : numB (fun _ => 0#8) 31 = 0 := by decide +kernel
  rw [show 1 + 31 = 32 by decide, h2, h3] at h1
  rw [h1]; simp [numB, upd_same]
theorem numB_zero : numB (fun _ => 0#8) 32 = 0 := by decide +kernel
def allF (i : Nat) : Nat → BitVec 8 := fun q => if q < i then 255#8 else 0#8
def expF (a b : BitVec 8) : Nat → BitVec 8 := upd (upd (allF 32) 0 a) 31 b
theorem exp_ok (a b : BitVec 8) : field_exponent a b (expF a b) := by
  refine ⟨allF 32, ?_, rfl⟩
  have e : (fun _ => 0#8) = allF 0 := by funext q; unfold allF; rw [if_neg (by omega)]
  rw [e]
  refine Iter.count (fun i => (i, allF i)) 32 (fun i hi => ?_) ?_
  · unfold field_exponent_l0; dsimp only
    rw [if_pos hi]
    have : upd (allF i) i 255#8 = allF (i + 1) := by
      funext q
      rw [upd_at]
      unfold allF
      by_cases h : q = i
      · rw [if_pos h, if_pos (by omega)]
      · rw [if_neg h]
        by_cases h2 : q < i
        · rw [if_pos h2, if_pos (by omega)]
        · rw [if_neg h2, if_neg (by omega)]
    rw [this]
  · unfold field_exponent_l0; dsimp only
    rw [if_neg (by omega)]
theorem exp_inv : numB (expF 235#8 127#8) 32 = p255 - 2 := by decide +kernel
def invN (x : Fp) : Fp := x ^ (p255 - 2)
theorem inv_rp {a : F5} {x : Fp} (ha : Rp a x) : ∃ r, field_Elem_Inv a r ∧ Rp r (invN x) := by
  obtain ⟨r, h1, h2⟩ := pow_rp ha (expF 235#8 127#8)
  rw [exp_inv] at h2
  exact ⟨r, ⟨_, exp_ok _ _, _, h1, rfl⟩, h2⟩
theorem inv_mul {x : Fp} (h : x ≠ 0) : x * invN x = 1 := by
  have h1 := f_fermat h
  rw [show p255 - 1 = (p255 - 2) + 1 by decide, fpow_add] at h1
  unfold invN
  grind
theorem zero_pow {n : Nat} (h : 0 < n) : (0 : Fp) ^ n = 0 := by
  obtain ⟨m, rfl⟩ : ∃ m, n = m + 1 := ⟨n - 1, by omega⟩
  rw [fpow_add]; grind
theorem inv_zero : invN 0 = 0 := zero_pow (by decide)
theorem inv_ne {x : Fp} (h : x ≠ 0) : invN x ≠ 0 := by
  intro h0
  have := inv_mul h
  rw [h0] at this
  exact one_ne (by grind)
theorem inv_inv (x : Fp) : invN (invN x) = x := by
  by_cases h : x = 0
  · rw [h, inv_zero, inv_zero]
  · have h1 := inv_mul h
    have h2 := inv_mul (inv_ne h)
    generalize invN (invN x) = z at h2 ⊢
    generalize invN x = y at h1 h2
    grind
theorem inv_prod (x y : Fp) : invN (x * y) = invN x * invN y := fmul_pow _ _ _
theorem pow_p (x : Fp) : x ^ p255 = x := by
  by_cases h : x = 0
  · rw [h]; exact zero_pow (by decide)
  · have := f_fermat h
    have e : x ^ p255 = x ^ ((p255 - 1) + 1) := congrArg (fun n : Nat => x ^ n) (by decide)
    rw [e, fpow_add, this]
    grind
theorem pow_top (x : Fp) : x ^ (2 ^ 255) = x ^ 20 := by
  rw [show (2 : Nat) ^ 255 = p255 + 19 by decide +kernel, fpow_add, pow_p, show (20 : Nat) = 1 + 19 by decide, fpow_add]
  grind
end Go.Proofs.YtjblfkmmbpcpaaaDoor
