/-
  RELATIONS of the package's functions, printed by this session's own program (auto.py).
-/
import Derived.Test.YtjblfkmmbpcpaaaDoorLx7
import Derived.Test.YtjblfkmmbpcpaaaDoorFldT
import Derived.Test.YtjblfkmmbpcpaaaDoorRCurve
import Derived.Test.YtjblfkmmbpcpaaaDoorRLaw07
namespace Go.Proofs.YtjblfkmmbpcpaaaDoor
set_option linter.unusedSimpArgs false
set_option linter.unusedVariables false
set_option linter.unusedSectionVars false
open Go Go.LW

def lethelaw07_CurveMeets (a1 : Nat → BitVec 8) (b2 : Nat → BitVec 8) (u3 : Nat → BitVec 8) (r : Bool) : Prop :=
  ∃ x_12 : Nat → BitVec 8, curve_Times b2 u3 x_12 ∧
  ∃ x_16 : Nat → BitVec 8, curve_Times a1 x_12 x_16 ∧
  ∃ x_24 : Nat → BitVec 8, curve_Times a1 u3 x_24 ∧
  ∃ x_28 : Nat → BitVec 8, curve_Times b2 x_24 x_28 ∧
  ∃ x_34 : Bool, lethelaw07_fixed x_34 ∧
  if x_34 = true then (
    if (eqB 32 x_16 x_28) = true then (
      ∃ x_40 : Bool, lethelaw07_reduced x_16 x_40 ∧
      r = x_40
    ) else (
      r = false
    )
  ) else (
    r = false
  )
end Go.Proofs.YtjblfkmmbpcpaaaDoor
