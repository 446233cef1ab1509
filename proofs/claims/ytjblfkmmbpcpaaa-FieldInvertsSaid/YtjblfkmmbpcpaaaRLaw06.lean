/-
  RELATIONS of the package's functions, printed by this session's own program (auto.py).
-/
import Derived.Test.YtjblfkmmbpcpaaaLx6
namespace Go.Proofs.Ytjblfkmmbpcpaaa
set_option linter.unusedSimpArgs false
set_option linter.unusedVariables false
set_option linter.unusedSectionVars false
open Go Go.LW

def lethelaw06_prime_l0  (s : (Nat × (Nat → BitVec 8))) (o24 : (Nat × (Nat → BitVec 8)) ⊕ (Nat → BitVec 8)) : Prop :=
  match s with
  | (i_21, m22) =>
    if i_21 < 32 then (
      o24 = .inl ((i_21 + 1), (upd m22 i_21 (255#8)))
    ) else (
      o24 = .inr m22
    )
def lethelaw06_prime (n_1 : BitVec 8) (r : (Nat → BitVec 8)) : Prop :=
  ∃ m23 : Nat → BitVec 8, Iter (lethelaw06_prime_l0) (1, (upd (fun _ => 0#8) 0 ((237#8) - n_1))) m23 ∧
  r = (upd m23 31 (127#8))
end Go.Proofs.Ytjblfkmmbpcpaaa
