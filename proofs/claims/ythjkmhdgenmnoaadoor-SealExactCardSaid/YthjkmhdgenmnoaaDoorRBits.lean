/-
 RELATIONS of the package's functions, printed by this session's own program (auto.py).
-/
import Derived.Test.YthjkmhdgenmnoaaDoorEc
import Derived.Test.YthjkmhdgenmnoaaDoorShaM
namespace Go.Proofs.YthjkmhdgenmnoaaDoor
set_option linter.unusedSimpArgs false
set_option linter.unusedVariables false
set_option linter.unusedSectionVars false
open Go Go.LW
def bits_RotateLeft32 (x_1 : BitVec 32) (k2 : Int) (r : (BitVec 32)) : Prop :=
 r = ((x_1 <<< (((BitVec.ofInt 64 k2) &&& (31#64)).toNat)) ||| (x_1 >>> (((32#64) - ((BitVec.ofInt 64 k2) &&& (31#64))).toNat)))
end Go.Proofs.YthjkmhdgenmnoaaDoor
