/-
 RELATIONS of the package's functions, printed by this session's own program (auto.py).
-/
import Derived.Test.YtbkgblhmlenocaaEd
namespace Go.Proofs.Ytbkgblhmlenocaa
set_option linter.unusedSimpArgs false
set_option linter.unusedVariables false
set_option linter.unusedSectionVars false
open Go Go.LW
def slices_Clone_byte_byte (s1 : List Byte) (r : (List Byte)) : Prop :=
 (0 + s1.length ≤ 140737488355328) ∧
 r = (([] : List Byte) ++ s1)
end Go.Proofs.Ytbkgblhmlenocaa
