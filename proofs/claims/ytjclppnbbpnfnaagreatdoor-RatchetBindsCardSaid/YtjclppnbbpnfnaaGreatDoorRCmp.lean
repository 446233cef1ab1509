/-
 RELATIONS of the package's functions, printed by this session's own program (auto.py).
-/
import Derived.Test.YtjclppnbbpnfnaaGreatDoorEd
import Derived.Test.YtjclppnbbpnfnaaGreatDoorFldT
import Derived.Test.YtjclppnbbpnfnaaGreatDoorShaM
namespace Go.Proofs.YtjclppnbbpnfnaaGreatDoor
set_option linter.unusedSimpArgs false
set_option linter.unusedVariables false
set_option linter.unusedSectionVars false
open Go Go.LW
def pK (a:U4) (r:Bool):Prop:=
 r=(decide (a≠a))
def lZ (a b:U4) (r:Int):Prop:=
 ∃d:Bool,pK a d∧
 ∃c:Bool,pK b c∧
 if d=true then (
  if c=true then (
    r=0
  ) else (
    r=(-1)
  )
 ) else (
  if c=true then (
    r=1
  ) else (
    if a.toNat < b.toNat then (
      r=(-1)
    ) else (
      if b.toNat < a.toNat then (
        r=1
      ) else (
        r=0
      )
    )
  )
 )
def um (a:List Int) (r:Int) (t28:Nat) (b:Nat ⊕ (Option Unit)):Prop:=
 if t28 < a.length then (
  (t28 < a.length)∧
  if (a.getD t28 (0:Int))≠0 then (
    b= .inr none∧r=(a.getD t28 (0:Int))
  ) else (
    ((t28+1) < 9223372036854775808)∧
    b= .inl (t28+1)
  )
 ) else (
  b= .inr (some ())
 )
def pY (b:List Int) (r:Int):Prop:=
 ∃a:Option Unit,Iter (um b r) 0 a∧(a=some ()→
 r=0
 )
end Go.Proofs.YtjclppnbbpnfnaaGreatDoor
