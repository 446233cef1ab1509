/-
 RELATIONS of the package's functions, printed by this session's own program (auto.py).
-/
import Derived.Test.YtjclppnbbpnfnaaGreatDoorEd
import Derived.Test.YtjclppnbbpnfnaaGreatDoorFldT
import Derived.Test.YtjclppnbbpnfnaaGreatDoorShaM
namespace Go.Proofs.YtjclppnbbpnfnaaGreatDoor
set_option linter.unusedSimpArgs false
set_option linter.unusedVariables false
set_option linter.unusedSectionVars false
open Go Go.LW
def mX (a:Int) (r:(List af)):Prop:=
 if a < 0 then (
  False
 ) else (
  ∃b:List af,(
   (-9223372036854775808≤(a - (((0 - 0):Nat):Int))∧(a - (((0 - 0):Nat):Int))≤9223372036854775807)∧
   if 0 < (a - (((0 - 0):Nat):Int)) then (
     (0≤(a - (((0 - 0):Nat):Int)))∧
     (0+(a - (((0 - 0):Nat):Int)).toNat≤140737488355328)∧
     (0≤0∧0≤(([]:List af) ++List.replicate ((a - (((0 - 0):Nat):Int)).toNat) 0#8).length)∧
     b=([]:List af)
   ) else (
     b=([]:List af)
   )
  )∧
  r=b
 )
def nX (a:List (List af)) (s:(Nat×Nat)) (c:(Nat×Nat) ⊕ Nat):Prop:=
 match s with
 | (b,t32)=>
  if t32 < a.length then (
    (t32 < a.length)∧
    ((b+((a.getD t32 []).length)) < 9223372036854775808)∧
    if (b+((a.getD t32 []).length)) < 0 then (
      False
    ) else (
      ((t32+1) < 9223372036854775808)∧
      c= .inl ((b+((a.getD t32 []).length)),(t32+1))
    )
  ) else (
    c= .inr b
  )
def pf (a:List (List af)) (s:((List af)×Nat)) (c:((List af)×Nat) ⊕ (List af)):Prop:=
 match s with
 | (b,t83)=>
  if t83 < a.length then (
    (t83 < a.length)∧
    (b.length+(a.getD t83 []).length≤140737488355328)∧
    ((t83+1) < 9223372036854775808)∧
    c= .inl ((b ++(a.getD t83 [])),(t83+1))
  ) else (
    c= .inr b
  )
def ox (a:List (List af)) (r:(List af)):Prop:=
 ∃b:Nat,Iter (nX a) (0,0) b∧
 ∃c:List af,mX ((b:Nat):Int) c∧
 ∃d:List af,Iter (pf a) (c,0) d∧
 r=d
def rj (s1:aZ) (r:(aZ)):Prop:=
 ((0+s1.length)*40≤140737488355328∧0+s1.length < 9223372036854775808)∧
 r=(([]:aZ) ++s1)
def rb (s1:aZ) (a b:Int) (r:(aZ)):Prop:=
 (0≤a)∧
 (0≤b)∧
 (a.toNat≤b.toNat∧b.toNat≤s1.length)∧
 if a=b then (
  r=s1
 ) else (
  (0≤a)∧
  (0≤a.toNat∧a.toNat≤s1.length)∧
  (0≤b)∧
  (b.toNat≤s1.length∧s1.length≤s1.length)∧
  r=(cG s1 0 a.toNat ++cG s1 b.toNat s1.length)
 )
def qV (s1:aZ) (r:(aZ)):Prop:=
 r=s1
end Go.Proofs.YtjclppnbbpnfnaaGreatDoor
