/-
  PLAIN LAW OF FieldRing (own work): the laws of a commutative ring.
-/
import Derived.Test.YtjblfkmmbpcpaaaDoorPField10
import Derived.Test.YtjblfkmmbpcpaaaDoorRFieldRing
namespace Go.Proofs.YtjblfkmmbpcpaaaDoor
set_option linter.unusedSimpArgs false
set_option linter.unusedVariables false
set_option linter.unusedSectionVars false
open Go Go.LW
set_option maxRecDepth 10000

theorem fieldRing_true (x y z : Nat → BitVec 8) : lethelaw06_FieldRing x y z true := by
  have a := rp_read x
  have b := rp_read y
  have c := rp_read z
  have tr : ∀ {p q : Fp}, p = q → decide (p = q) = true := fun h => decide_eq_true h
  refine ⟨_, read_ok x, _, read_ok y, _, read_ok z, _, small_ok _, _, add_ok _ _, _, add_ok _ _, _, eq_ok (rp_add a b) (rp_add b a), ?_⟩
  rw [if_pos (tr (by grind))]
  refine ⟨_, add_ok _ _, _, add_ok _ _, _, add_ok _ _, _, add_ok _ _, _, eq_ok (rp_add a (rp_add b c)) (rp_add (rp_add a b) c), ?_⟩
  rw [if_pos (tr (by grind))]
  refine ⟨_, mul_ok _ _, _, mul_ok _ _, _, eq_ok (rp_mul a b) (rp_mul b a), ?_⟩
  rw [if_pos (tr (by grind))]
  refine ⟨_, mul_ok _ _, _, mul_ok _ _, _, mul_ok _ _, _, mul_ok _ _, _, eq_ok (rp_mul a (rp_mul b c)) (rp_mul (rp_mul a b) c), ?_⟩
  rw [if_pos (tr (by grind))]
  refine ⟨_, add_ok _ _, _, mul_ok _ _, _, mul_ok _ _, _, mul_ok _ _, _, add_ok _ _, _, eq_ok (rp_mul a (rp_add b c)) (rp_add (rp_mul a b) (rp_mul a c)), ?_⟩
  rw [if_pos (tr (by grind))]
  refine ⟨_, sub_ok _ _, _, mul_ok _ _, _, mul_ok _ _, _, mul_ok _ _, _, sub_ok _ _, _, eq_ok (rp_mul a (rp_sub b c)) (rp_sub (rp_mul a b) (rp_mul a c)), ?_⟩
  rw [if_pos (tr (by grind))]
  refine ⟨false, ?_, ?_⟩
  · refine ⟨_, add_ok _ _, _, eq_ok (rp_add a rp_zero) a, ?_⟩
    rw [if_pos (tr (by grind))]
    refine ⟨_, mul_ok _ _, _, eq_ok (rp_mul a rp_one) a, ?_⟩
    rw [if_pos (tr (by grind))]
    refine ⟨_, mul_ok _ _, _, eq_ok (rp_mul a rp_zero) rp_zero, ?_⟩
    rw [if_pos (tr (by grind))]
    refine ⟨_, sub_ok _ _, _, add_ok _ _, _, eq_ok (rp_add (rp_sub a b) b) a, ?_⟩
    rw [if_pos (tr (by grind))]
    refine ⟨_, sub_ok _ _, _, eq_ok (rp_sub a a) rp_zero, ?_⟩
    rw [tr (by grind)]; rfl
  · rw [if_neg (by decide)]
    refine ⟨_, sq_ok _, _, mul_ok _ _, _, eq_ok (rp_mul a a) (rp_mul a a), ?_⟩
    rw [if_pos (tr rfl)]
    refine ⟨_, eq_ok rp_one rp_zero, ?_⟩
    rw [if_neg (by simpa using one_ne)]
    refine ⟨_, small_ok _, _, eq_ok rp_zero (rp_small 0#32), ?_⟩
    rw [if_pos (tr (show (0 : Fp) = ofN (0#32 : BitVec 32).toNat from rfl))]
    refine ⟨_, eq_ok a b, _, bytes_ok _, _, bytes_ok _, ?_⟩
    rw [rp_eq a b]; simp
end Go.Proofs.YtjblfkmmbpcpaaaDoor
