/-
 RELATIONS of the package's functions, printed by this session's own program (auto.py).
-/
import Derived.Test.YtjclppnbbpnfnaaGreatDoorEd
import Derived.Test.YtjclppnbbpnfnaaGreatDoorFldT
import Derived.Test.YtjclppnbbpnfnaaGreatDoorShaM
import Derived.Test.YtjclppnbbpnfnaaGreatDoorRKdf
namespace Go.Proofs.YtjclppnbbpnfnaaGreatDoor
set_option linter.unusedSimpArgs false
set_option linter.unusedVariables false
set_option linter.unusedSectionVars false
open Go Go.LW
def k4 (b c:K8) (r:(K8×K8)):Prop:=
 ∃a:List af,∃d:Nat,jj (dl 32 b) (dl 32 c) (dl 10 (lit ([108#8,101#8,116#8,104#8,101#8,32#8,114#8,111#8,111#8,116#8]:List af))) 64 (a,d)∧
 (32≤a.length∧a.length≤a.length)∧
 r=((bh (fun _=>0#8) 0 (min a.length 32) (lit a)),(bh (fun _=>0#8) 0 (min (a.length - 32) 32) (lit (aT a 32 a.length))))
def jv (a:K8) (r:(K8×K8)):Prop:=
 ∃d:K8,dy (dl 32 a) ([([2#8]:List af)]:List (List af)) d∧
 ∃e:K8,dy (dl 32 a) ([([1#8]:List af)]:List (List af)) e∧
 ∃f:K8,dy (dl 32 a) ([([2#8]:List af)]:List (List af)) f∧
 ∃g:K8,dy (dl 32 a) ([([1#8]:List af)]:List (List af)) g∧
 ∃h:K8,dy (dl 32 a) ([([2#8]:List af)]:List (List af)) h∧
 ∃i:K8,dy (dl 32 a) ([([1#8]:List af)]:List (List af)) i∧
 ∃j:K8,dy (dl 32 a) ([([2#8]:List af)]:List (List af)) j∧
 ∃k:K8,dy (dl 32 a) ([([1#8]:List af)]:List (List af)) k∧
 ∃l:K8,dy (dl 32 a) ([([2#8]:List af)]:List (List af)) l∧
 ∃m:K8,dy (dl 32 a) ([([1#8]:List af)]:List (List af)) m∧
 ∃b:K8,dy (dl 32 a) ([([2#8]:List af)]:List (List af)) b∧
 ∃c:K8,dy (dl 32 a) ([([1#8]:List af)]:List (List af)) c∧
 r=(b,c)
end Go.Proofs.YtjclppnbbpnfnaaGreatDoor
