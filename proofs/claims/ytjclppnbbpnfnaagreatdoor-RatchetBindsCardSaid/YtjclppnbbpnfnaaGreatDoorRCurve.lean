/-
 RELATIONS of the package's functions, printed by this session's own program (auto.py).
-/
import Derived.Test.YtjclppnbbpnfnaaGreatDoorEd
import Derived.Test.YtjclppnbbpnfnaaGreatDoorFldT
import Derived.Test.YtjclppnbbpnfnaaGreatDoorShaM
import Derived.Test.YtjclppnbbpnfnaaGreatDoorRField
namespace Go.Proofs.YtjclppnbbpnfnaaGreatDoor
set_option linter.unusedSimpArgs false
set_option linter.unusedVariables false
set_option linter.unusedSectionVars false
open Go Go.LW
def nw (a r:K8):Prop:=
 r=(an (an a 0 ((a 0) &&& ~~~(7#8))) 31 ((((an a 0 ((a 0) &&& ~~~(7#8))) 31) &&& (127#8)) ||| (64#8)))
def l2 (a:Int) (f g h i:Nat→BitVec 64) (r:((Nat→BitVec 64)×(Nat→BitVec 64)×(Nat→BitVec 64)×(Nat→BitVec 64))):Prop:=
 ∃b c:Nat→BitVec 64,jg a f h (b,c)∧
 ∃d e:Nat→BitVec 64,jg a g i (d,e)∧
 r=(b,d,c,e)
def oY (y h i j k:Nat→BitVec 64) (r:((Nat→BitVec 64)×(Nat→BitVec 64)×(Nat→BitVec 64)×(Nat→BitVec 64))):Prop:=
 ∃b:Nat→BitVec 64,jV h i b∧
 ∃c:Nat→BitVec 64,jX h i c∧
 ∃l:Nat→BitVec 64,jV j k l∧
 ∃m:Nat→BitVec 64,jX j k m∧
 ∃d:Nat→BitVec 64,fZ m b d∧
 ∃e:Nat→BitVec 64,fZ l c e∧
 ∃n:Nat→BitVec 64,jV d e n∧
 ∃o:Nat→BitVec 64,je n o∧
 ∃p:Nat→BitVec 64,jX d e p∧
 ∃q:Nat→BitVec 64,je p q∧
 ∃s:Nat→BitVec 64,fZ y q s∧
 ∃a:Nat→BitVec 64,je b a∧
 ∃f:Nat→BitVec 64,je c f∧
 ∃g:Nat→BitVec 64,jX a f g∧
 ∃t:Nat→BitVec 64,fZ a f t∧
 ∃u:Nat→BitVec 64,k7 (121665#32) u∧
 ∃v:Nat→BitVec 64,fZ u g v∧
 ∃w:Nat→BitVec 64,jV a v w∧
 ∃x:Nat→BitVec 64,fZ g w x∧
 r=(t,x,o,s)
def nB (b:K8) (q:Nat→BitVec 64) (s:(Nat×Int×(Nat→BitVec 64)×(Nat→BitVec 64)×(Nat→BitVec 64)×(Nat→BitVec 64))) (d:(Nat×Int×(Nat→BitVec 64)×(Nat→BitVec 64)×(Nat→BitVec 64)×(Nat→BitVec 64)) ⊕ (Nat×(Nat→BitVec 64)×(Nat→BitVec 64)×(Nat→BitVec 64)×(Nat→BitVec 64))):Prop:=
 match s with
 | (c,a,e,f,g,h)=>
  if 0≤a then (
    (-9223372036854775808≤(a.tdiv 8)∧(a.tdiv 8)≤9223372036854775807)∧
    (0≤(a.tdiv 8)∧(a.tdiv 8) < 32)∧
    (0≤(a.tmod 8))∧
    (((((b ((a.tdiv 8).toNat)) >>> ((a.tmod 8).toNat)).toNat) &&& 1) < 9223372036854775808∧c < 9223372036854775808)∧
    ∃i j k l:Nat→BitVec 64,l2 (((((((b ((a.tdiv 8).toNat)) >>> ((a.tmod 8).toNat)).toNat) &&& 1) ^^^ c):Nat):Int) e f g h (i,j,k,l)∧
    ∃m n o p:Nat→BitVec 64,oY q i j k l (m,n,o,p)∧
    (-9223372036854775808≤(a - 1)∧(a - 1)≤9223372036854775807)∧
    d= .inl (((((b ((a.tdiv 8).toNat)) >>> ((a.tmod 8).toNat)).toNat) &&& 1),(a - 1),m,n,o,p)
  ) else (
    d= .inr (c,e,f,g,h)
  )
def kq (n o r:K8):Prop:=
 ∃c:K8,nw n c∧
 ∃a:Nat→BitVec 64,oA o a∧
 ∃b:Nat→BitVec 64,k7 (1#32) b∧
 ∃d:Nat,∃e f g h:Nat→BitVec 64,Iter (nB c a) (0,254,b,(fun _=>0#64),a,b) (d,e,f,g,h)∧
 ∃i j p q:Nat→BitVec 64,l2 ((d:Nat):Int) e f g h (i,j,p,q)∧
 ∃k:Nat→BitVec 64,qf j k∧
 ∃l:Nat→BitVec 64,fZ i k l∧
 ∃m:K8,oC l m∧
 r=m
def nR (b r:K8):Prop:=
 ∃a:K8,kq b (an (fun _=>0#8) 0 (9#8)) a∧
 r=a
def k' (a:List af) (r:(K8×K8×Nat)):Prop:=
 if a.length≠32 then (
  r=((fun _=>0#8),(fun _=>0#8),71)
 ) else (
  (32≤a.length)∧
  ∃b:K8,nw (lit a) b∧
  ∃c:K8,nR b c∧
  r=(b,c,0)
 )
def fH (b c:K8) (r:(K8×Nat)):Prop:=
 ∃a:K8,kq b c a∧
 if (c9 32 a (fun _=>0#8))=true then (
  r=(a,70)
 ) else (
  r=(a,0)
 )
end Go.Proofs.YtjclppnbbpnfnaaGreatDoor
