/-
 RELATIONS of the package's functions, printed by this session's own program (auto.py).
-/
import Derived.Test.YtjclppnbbpnfnaaGreatDoorEd
import Derived.Test.YtjclppnbbpnfnaaGreatDoorFldT
import Derived.Test.YtjclppnbbpnfnaaGreatDoorShaM
namespace Go.Proofs.YtjclppnbbpnfnaaGreatDoor
set_option linter.unusedSimpArgs false
set_option linter.unusedVariables false
set_option linter.unusedSectionVars false
open Go Go.LW
def o6 (a b:BitVec 64) (r:((BitVec 64)×(BitVec 64))):Prop:=
 r=(((((a >>> 32)*(b >>> 32))+((((a >>> 32)*(b &&& (4294967295#64)))+(((a &&& (4294967295#64))*(b &&& (4294967295#64))) >>> 32)) >>> 32))+((((((a >>> 32)*(b &&& (4294967295#64)))+(((a &&& (4294967295#64))*(b &&& (4294967295#64))) >>> 32)) &&& (4294967295#64))+((a &&& (4294967295#64))*(b >>> 32))) >>> 32)),(a*b))
def tb (a:U4) (b:Int) (r:U4):Prop:=
 r=((a <<< (((BitVec.ofInt 64 b) &&& (31#64)).toNat)) ||| (a >>> (((32#64) - ((BitVec.ofInt 64 b) &&& (31#64))).toNat)))
end Go.Proofs.YtjclppnbbpnfnaaGreatDoor
