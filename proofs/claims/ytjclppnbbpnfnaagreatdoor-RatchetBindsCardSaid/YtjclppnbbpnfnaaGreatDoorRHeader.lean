/-
 RELATIONS of the package's functions, printed by this session's own program (auto.py).
-/
import Derived.Test.YtjclppnbbpnfnaaGreatDoorEd
import Derived.Test.YtjclppnbbpnfnaaGreatDoorFldT
import Derived.Test.YtjclppnbbpnfnaaGreatDoorShaM
import Derived.Test.YtjclppnbbpnfnaaGreatDoorRWire
namespace Go.Proofs.YtjclppnbbpnfnaaGreatDoor
set_option linter.unusedSimpArgs false
set_option linter.unusedVariables false
set_option linter.unusedSectionVars false
open Go Go.LW
def ly (a:U4) (r:(List af)):Prop:=
 r=([((a >>> 24).setWidth 8),((a >>> 16).setWidth 8),((a >>> 8).setWidth 8),(a.setWidth 8)]:List af)
def mm (e:K8) (f:U4) (g:K8) (h i:U4) (r:(List af)):Prop:=
 ∃a:List af,ly f a∧
 ∃b:List af,ly h b∧
 ∃c:List af,ly i c∧
 ∃d:List af,kC ([(dl 16 e),a,(dl 32 g),b,c]:List (List af)) d∧
 r=d
end Go.Proofs.YtjclppnbbpnfnaaGreatDoor
