/-
  RELATIONS of the package's functions, printed by this session's own program (auto.py).
-/
import Derived.Test.YtbkgblhmlenocaaEb
namespace Go.Proofs.Ytbkgblhmlenocaa
set_option linter.unusedSimpArgs false
set_option linter.unusedVariables false
set_option linter.unusedSectionVars false
open Go Go.LW

def bytes_Compare (a1 : List Byte) (b2 : List Byte) (r : Int) : Prop :=
  r = (cmpI a1 b2)
end Go.Proofs.Ytbkgblhmlenocaa
