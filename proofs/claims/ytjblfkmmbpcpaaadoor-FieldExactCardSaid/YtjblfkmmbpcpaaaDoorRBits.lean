/-
  RELATIONS of the package's functions, printed by this session's own program (auto.py).
-/
import Derived.Test.YtjblfkmmbpcpaaaDoorEb
import Derived.Test.YtjblfkmmbpcpaaaDoorFldT
namespace Go.Proofs.YtjblfkmmbpcpaaaDoor
set_option linter.unusedSimpArgs false
set_option linter.unusedVariables false
set_option linter.unusedSectionVars false
open Go Go.LW

def bits_Mul64 (x_1 : BitVec 64) (y2 : BitVec 64) (r : ((BitVec 64) × (BitVec 64))) : Prop :=
  r = (((((x_1 >>> 32) * (y2 >>> 32)) + ((((x_1 >>> 32) * (y2 &&& (4294967295#64))) + (((x_1 &&& (4294967295#64)) * (y2 &&& (4294967295#64))) >>> 32)) >>> 32)) + ((((((x_1 >>> 32) * (y2 &&& (4294967295#64))) + (((x_1 &&& (4294967295#64)) * (y2 &&& (4294967295#64))) >>> 32)) &&& (4294967295#64)) + ((x_1 &&& (4294967295#64)) * (y2 >>> 32))) >>> 32)), (x_1 * y2))
end Go.Proofs.YtjblfkmmbpcpaaaDoor
