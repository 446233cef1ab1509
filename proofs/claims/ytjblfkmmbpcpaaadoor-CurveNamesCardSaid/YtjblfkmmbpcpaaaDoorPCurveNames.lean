/-
  PLAIN LAW OF CurveNames (own work): the worked example, and the numbers of the errors.
-/
import Derived.Test.YtjblfkmmbpcpaaaDoorPFixed
import Derived.Test.YtjblfkmmbpcpaaaDoorRCurveNames
namespace Go.Proofs.YtjblfkmmbpcpaaaDoor
set_option linter.unusedSimpArgs false
set_option linter.unusedVariables false
set_option linter.unusedSectionVars false
open Go Go.LW
theorem curveNames_true : lethelaw07_CurveNames true := ⟨true, fixed_ok, by rw [if_pos rfl]⟩
end Go.Proofs.YtjblfkmmbpcpaaaDoor
