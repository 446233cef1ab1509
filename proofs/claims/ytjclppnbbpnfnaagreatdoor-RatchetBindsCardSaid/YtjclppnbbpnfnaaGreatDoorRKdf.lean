/-
 RELATIONS of the package's functions, printed by this session's own program (auto.py).
-/
import Derived.Test.YtjclppnbbpnfnaaGreatDoorEd
import Derived.Test.YtjclppnbbpnfnaaGreatDoorFldT
import Derived.Test.YtjclppnbbpnfnaaGreatDoorShaM
import Derived.Test.YtjclppnbbpnfnaaGreatDoorRSha
namespace Go.Proofs.YtjclppnbbpnfnaaGreatDoor
set_option linter.unusedSimpArgs false
set_option linter.unusedVariables false
set_option linter.unusedSectionVars false
open Go Go.LW
def n2 (c:BitVec 8) (s:(Nat×K8)) (b:(Nat×K8) ⊕ K8):Prop:=
 match s with
 | (t44,a)=>
  if t44 < 64 then (
    b= .inl ((t44+1),(an a t44 ((a t44) ^^^ c)))
  ) else (
    b= .inr a
  )
def pF (c:BitVec 8) (s:(Nat×K8)) (b:(Nat×K8) ⊕ K8):Prop:=
 match s with
 | (t75,a)=>
  if t75 < 64 then (
    b= .inl ((t75+1),(an a t75 ((a t75) ^^^ c)))
  ) else (
    b= .inr a
  )
def kG (a:List af) (b:BitVec 8) (r:(List af)):Prop:=
 if 64 < a.length then (
  ∃c:K8,lN ([a]:List (List af)) c∧
  ∃d:K8,Iter (n2 b) (0,(bh (fun _=>0#8) 0 32 (lit (dl 32 c)))) d∧
  r=(dl 64 d)
 ) else (
  ∃e:K8,Iter (pF b) (0,(bh (fun _=>0#8) 0 (min a.length 64) (lit a))) e∧
  r=(dl 64 e)
 )
def oi (a:List (List af)) (s:(Nat×(Nat→U4)×K8×Int)) (b:(Nat×(Nat→U4)×K8×Int) ⊕ ((Nat→U4)×K8×Int)):Prop:=
 match s with
 | (t58,c,d,e)=>
  if t58 < a.length then (
    (t58 < a.length)∧
    ∃f:Nat→U4,∃g:K8,∃h:Int,im c d e (a.getD t58 []) (f,g,h)∧
    ((t58+1) < 9223372036854775808)∧
    b= .inl ((t58+1),f,g,h)
  ) else (
    b= .inr (c,d,e)
  )
def dy (a:List af) (n:List (List af)) (r:K8):Prop:=
 ∃b:Nat→U4,∃c:K8,∃d:Nat,oI (b,c,d)∧
 ∃e:List af,kG a (54#8) e∧
 ∃f:Nat→U4,∃g:K8,∃h:Int,im b c ((d:Nat):Int) e (f,g,h)∧
 ∃i:Nat→U4,∃j:K8,∃m64:Int,Iter (oi n) (0,f,g,h) (i,j,m64)∧
 ∃k:K8,na i j m64 k∧
 ∃l:List af,kG a (92#8) l∧
 ∃m:K8,lN ([l,(dl 32 k)]:List (List af)) m∧
 r=m
def p0 (b c:List af) (r:K8):Prop:=
 ∃a:K8,dy b ([c]:List (List af)) a∧
 r=a
def pV (e f:List af) (g:Int) (s:((List af)×(List af)×Nat)) (d:((List af)×(List af)×Nat) ⊕ (List af)):Prop:=
 match s with
 | (a,h,b)=>
  if ((a.length:Nat):Int) < g then (
    ∃c:K8,dy e ([h,f,([(BitVec.ofNat 8 b)]:List af)]:List (List af)) c∧
    (a.length+32≤140737488355328)∧
    ((b+1) < 9223372036854775808)∧
    d= .inl ((a ++(dl 32 c)),(dl 32 c),(b+1))
  ) else (
    d= .inr a
  )
def mQ (c d:List af) (a:Int) (r:((List af)×Nat)):Prop:=
 if a < 0 then (
  r=(([]:List af),4)
 ) else (
  if 8160 < a then (
    r=(([]:List af),30)
  ) else (
    (0≤(a+32))∧
    (0≤(a+32).toNat∧(a+32).toNat≤281474976710656)∧
    ∃b:List af,Iter (pV c d a) ((List.replicate 0 0#8),([]:List af),1) b∧
    (0≤a)∧
    (a.toNat≤b.length)∧
    r=((aT b 0 a.toNat),0)
  )
 )
def jj (d e f:List af) (g:Int) (r:((List af)×Nat)):Prop:=
 ∃a:K8,p0 d e a∧
 ∃b:List af,∃c:Nat,mQ (dl 32 a) f g (b,c)∧
 r=(b,c)
end Go.Proofs.YtjclppnbbpnfnaaGreatDoor
