/-
 RELATIONS of the package's functions, printed by this session's own program (auto.py).
-/
import Derived.Test.YtjclppnbbpnfnaaDoorEb
import Derived.Test.YtjclppnbbpnfnaaDoorFldT
import Derived.Test.YtjclppnbbpnfnaaDoorShaM
namespace Go.Proofs.YtjclppnbbpnfnaaDoor
set_option linter.unusedSimpArgs false
set_option linter.unusedVariables false
set_option linter.unusedSectionVars false
open Go Go.LW
def bits_Mul64 (x_1 : BitVec 64) (y2 : BitVec 64) (r : ((BitVec 64) × (BitVec 64))) : Prop :=
 r = (((((x_1 >>> 32) * (y2 >>> 32)) + ((((x_1 >>> 32) * (y2 &&& (4294967295#64))) + (((x_1 &&& (4294967295#64)) * (y2 &&& (4294967295#64))) >>> 32)) >>> 32)) + ((((((x_1 >>> 32) * (y2 &&& (4294967295#64))) + (((x_1 &&& (4294967295#64)) * (y2 &&& (4294967295#64))) >>> 32)) &&& (4294967295#64)) + ((x_1 &&& (4294967295#64)) * (y2 >>> 32))) >>> 32)), (x_1 * y2))
def bits_Mul (x_1 : BitVec 64) (y2 : BitVec 64) (r : ((BitVec 64) × (BitVec 64))) : Prop :=
 ∃ x_7 : BitVec 64, ∃ x_8 : BitVec 64, bits_Mul64 x_1 y2 (x_7, x_8) ∧
 r = (x_7, x_8)
def bits_RotateLeft32 (x_1 : BitVec 32) (k2 : Int) (r : (BitVec 32)) : Prop :=
 r = ((x_1 <<< (((BitVec.ofInt 64 k2) &&& (31#64)).toNat)) ||| (x_1 >>> (((32#64) - ((BitVec.ofInt 64 k2) &&& (31#64))).toNat)))
end Go.Proofs.YtjclppnbbpnfnaaDoor
