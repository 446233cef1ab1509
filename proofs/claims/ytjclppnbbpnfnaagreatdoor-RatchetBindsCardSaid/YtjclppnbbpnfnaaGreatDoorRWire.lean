/-
 RELATIONS of the package's functions, printed by this session's own program (auto.py).
-/
import Derived.Test.YtjclppnbbpnfnaaGreatDoorEd
import Derived.Test.YtjclppnbbpnfnaaGreatDoorFldT
import Derived.Test.YtjclppnbbpnfnaaGreatDoorShaM
namespace Go.Proofs.YtjclppnbbpnfnaaGreatDoor
set_option linter.unusedSimpArgs false
set_option linter.unusedVariables false
set_option linter.unusedSectionVars false
open Go Go.LW
def jt (a:List (List af)) (s:(Nat×Nat)) (c:(Nat×Nat) ⊕ Nat):Prop:=
 match s with
 | (b,t26)=>
  if t26 < a.length then (
    (t26 < a.length)∧
    ((b+((a.getD t26 []).length)) < 9223372036854775808)∧
    ((t26+1) < 9223372036854775808)∧
    c= .inl ((b+((a.getD t26 []).length)),(t26+1))
  ) else (
    c= .inr b
  )
def jy (a:List (List af)) (s:((List af)×Nat)) (c:((List af)×Nat) ⊕ (List af)):Prop:=
 match s with
 | (b,t68)=>
  if t68 < a.length then (
    (t68 < a.length)∧
    (b.length+(a.getD t68 []).length≤140737488355328)∧
    ((t68+1) < 9223372036854775808)∧
    c= .inl ((b ++(a.getD t68 [])),(t68+1))
  ) else (
    c= .inr b
  )
def kC (b:List (List af)) (r:(List af)):Prop:=
 ∃a:Nat,Iter (jt b) (0,0) a∧
 (0≤a∧a≤281474976710656)∧
 ∃c:List af,Iter (jy b) ((List.replicate 0 0#8),0) c∧
 r=c
def oo (a b:List af) (s:((BitVec 8)×Nat)) (c:((BitVec 8)×Nat) ⊕ (BitVec 8)):Prop:=
 match s with
 | (d,t35)=>
  if t35 < a.length then (
    (t35 < a.length)∧
    (t35 < b.length)∧
    ((t35+1) < 9223372036854775808)∧
    c= .inl ((d ||| ((lit a t35) ^^^ (lit b t35))),(t35+1))
  ) else (
    c= .inr d
  )
def jP (a b:List af) (r:Bool):Prop:=
 if a.length≠b.length then (
  r=false
 ) else (
  ∃c:BitVec 8,Iter (oo a b) (0#8,0) c∧
  r=(decide (c=0#8))
 )
end Go.Proofs.YtjclppnbbpnfnaaGreatDoor
