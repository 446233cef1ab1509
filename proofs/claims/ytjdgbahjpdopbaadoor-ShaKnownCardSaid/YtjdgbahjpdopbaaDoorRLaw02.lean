/-
  RELATIONS of the package's functions, printed by this session's own program (auto.py).
-/
import Derived.Test.YtjdgbahjpdopbaaDoorLx5
import Derived.Test.YtjdgbahjpdopbaaDoorShaM
import Derived.Test.YtjdgbahjpdopbaaDoorRSha
namespace Go.Proofs.YtjdgbahjpdopbaaDoor
set_option linter.unusedSimpArgs false
set_option linter.unusedVariables false
set_option linter.unusedSectionVars false
open Go Go.LW

def lethelaw02_moves  (r : Bool) : Prop :=
  ∃ x_4 : Nat → BitVec 32, ∃ x_5 : Nat → BitVec 8, ∃ x_6 : Nat, sha_New (x_4, x_5, x_6) ∧
  ∃ x_15 : Nat → BitVec 32, ∃ x_16 : Nat → BitVec 8, ∃ x_17 : Int, sha_Hash_Write x_4 x_5 ((x_6 : Nat) : Int) ([1#8, 2#8, 3#8] : List Byte) (x_15, x_16, x_17) ∧
  ∃ x_21 : Int, sha_Hash_Len x_15 x_16 x_17 x_21 ∧
  r = (decide (x_21 = 3))
end Go.Proofs.YtjdgbahjpdopbaaDoor
