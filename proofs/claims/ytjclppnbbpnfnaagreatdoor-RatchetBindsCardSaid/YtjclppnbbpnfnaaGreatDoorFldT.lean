/-
 OWN WORK: the table of the field's package, as a function.
-/
import Derived.Test.YtjclppnbbpnfnaaGreatDoorEb
namespace Go.LW
set_option linter.unusedSimpArgs false
set_option linter.unusedVariables false
set_option linter.unusedSectionVars false
def dn:Nat→BitVec 64:=fun i=> #[0xfffffffffffda#64,0xffffffffffffe#64,0xffffffffffffe#64,0xffffffffffffe#64,0xffffffffffffe#64].getD i 0#64
end Go.LW
