/-
  RELATIONS of the package's functions, printed by this session's own program (auto.py).
-/
import Derived.Test.YtjblfkmmbpcpaaaDoorLx7
import Derived.Test.YtjblfkmmbpcpaaaDoorFldT
import Derived.Test.YtjblfkmmbpcpaaaDoorRLaw07
namespace Go.Proofs.YtjblfkmmbpcpaaaDoor
set_option linter.unusedSimpArgs false
set_option linter.unusedVariables false
set_option linter.unusedSectionVars false
open Go Go.LW

def lethelaw07_CurveNames  (r : Bool) : Prop :=
  ∃ x_4 : Bool, lethelaw07_fixed x_4 ∧
  if x_4 = true then (
    r = true
  ) else (
    r = false
  )
end Go.Proofs.YtjblfkmmbpcpaaaDoor
