/-
 RELATIONS of the package's functions, printed by this session's own program (auto.py).
-/
import Derived.Test.YtjclppnbbpnfnaaGreatDoorEd
import Derived.Test.YtjclppnbbpnfnaaGreatDoorFldT
import Derived.Test.YtjclppnbbpnfnaaGreatDoorShaM
import Derived.Test.YtjclppnbbpnfnaaGreatDoorRCurve
import Derived.Test.YtjclppnbbpnfnaaGreatDoorRHeader
import Derived.Test.YtjclppnbbpnfnaaGreatDoorRKdf
import Derived.Test.YtjclppnbbpnfnaaGreatDoorRRatchet
namespace Go.Proofs.YtjclppnbbpnfnaaGreatDoor
set_option linter.unusedSimpArgs false
set_option linter.unusedVariables false
set_option linter.unusedSectionVars false
set_option maxRecDepth 8000
open Go Go.LW
def kT (b:K8) (a:Int) (r:(K8×K8×Bool)):Prop:=
 (-9223372036854775808≤(a.tdiv 32)∧(a.tdiv 32)≤9223372036854775807)∧
 ∃c d:K8,∃e:Nat,k' (dl 32 (an (an b 0 ((b 0) ^^^ (BitVec.ofInt 8 (8*(a.tmod 32))))) 1 (((an b 0 ((b 0) ^^^ (BitVec.ofInt 8 (8*(a.tmod 32))))) 1) ^^^ (BitVec.ofInt 8 (a.tdiv 32))))) (c,d,e)∧
 r=(c,d,(decide (e=0)))
def lr (a b:K8) (r:Bool ⊕ (K8×K8×K8×K8×K8×K8×K8×U4×U4×U4×U4×U4×U4×K8×K8×U4×K8×K8×K8×K8×K8×K8×K8×K8×U4×U4×U4×U4×U4×U4×K8×K8×U4×K8×(aZ)×(aZ)×(cI)×Nat×Bool)):Prop:=
 ∃f g:K8,∃h:Bool,kT a 0 (f,g,h)∧
 ∃i c:K8,∃j:Bool,kT a 1 (i,c,j)∧
 if h=true then (
  if j=true then (
    ∃d k l m n o p:K8,∃e q s t u v:U4,∃w x:K8,∃y:U4,∃z:K8,∃A:Nat,p_ a b (an (fun _=>0#8) 0 (7#8)) f g c (d,k,l,m,n,o,p,e,q,s,t,u,v,w,x,y,z,A)∧
    if A≠0 then (
      r=(.inl false)
    ) else (
      if e≠1#32 then (
        r=(.inl false)
      ) else (
        if (c9 16 d b)=true then (
          ∃B C D E F G H:K8,∃I J K L M N:U4,∃O P:K8,∃Q:U4,∃R:K8,sc a b (an (fun _=>0#8) 0 (7#8)) i c (B,C,D,E,F,G,H,I,J,K,L,M,N,O,P,Q,R)∧
          r=(.inr (d,k,l,m,n,o,p,e,q,s,t,u,v,w,x,y,z,B,C,D,E,F,G,H,I,J,K,L,M,N,O,P,Q,R,([]:aZ),([]:aZ),([]:cI),2,true))
        ) else (
          r=(.inl false)
        )
      )
    )
  ) else (
    r=(.inl false)
  )
 ) else (
  r=(.inl false)
 )
def jN (a:Int) (r:(List af)):Prop:=
 (-9223372036854775808≤(a.tdiv 256)∧(a.tdiv 256)≤9223372036854775807)∧
 r=([(BitVec.ofInt 8 a),(BitVec.ofInt 8 (a.tdiv 256))]:List af)
def l8 (k l m n o p q:K8) (c s g t u v:U4) (w x:K8) (y:U4) (z A B C D E F dS:K8) (d dY h G H I:U4) (J K:K8) (L:U4) (M:K8) (N O:aZ) (a:cI) (f2 a5:Int) (T:List af) (r:(Bool×K8×K8×K8×K8×K8×K8×K8×U4×U4×U4×U4×U4×U4×K8×K8×U4×K8×K8×K8×K8×K8×K8×K8×K8×U4×U4×U4×U4×U4×U4×K8×K8×U4×K8×(aZ)×(aZ)×(cI))):Prop:=
 ∃b:List af,(
  if 40 < T.length then (
    (0≤40∧40≤T.length)∧
    b=(aT T 0 40)
  ) else (
    b=T
  )
 )∧
 if a5=0 then (
  ∃a9:List af,jN ((a.length:Nat):Int) a9∧
  ∃be bi bv cc cd ce ci:K8,∃cl co a0 cs c1 c2:U4,∃dl ds:K8,∃d0:U4,∃d1 U:K8,∃R:U4,∃V:K8,∃W P:U4,∃i:List af,∃a2:Nat,mi k l m n o p q c s g t u v w x y z (1000#32) b a9 (be,bi,bv,cc,cd,ce,ci,cl,co,a0,cs,c1,c2,dl,ds,d0,d1,U,R,V,W,P,i,a2)∧
  if c=0#32 then (
    r=((decide (a2=165)),k,l,m,n,o,p,q,c,s,g,t,u,v,w,x,y,z,A,B,C,D,E,F,dS,d,dY,h,G,H,I,J,K,L,M,N,O,a)
  ) else (
    ∃e:List af,∃t140:Bool,(
     if a2≠0 then (
       e=i∧t140=true
     ) else (
       ((b.length+32) < 9223372036854775808)∧
       if i.length≠(b.length+32) then (
         e=i∧t140=true
       ) else (
         if P≠g then (
           e=i∧t140=true
         ) else (
           if (R+(1#32))≠c then (
             e=i∧t140=true
           ) else (
             e=i∧t140=(decide (a0≠(P+(1#32))))
           )
         )
       )
     )
    )∧
    if t140=true then (
      r=(false,k,l,m,n,o,p,q,c,s,g,t,u,v,w,x,y,z,A,B,C,D,E,F,dS,d,dY,h,G,H,I,J,K,L,M,N,O,a)
    ) else (
      ∃X:List af,jN ((a.length:Nat):Int) X∧
      ((a.length+([((((1 - 0):Nat):Int),U,R,V,W,P,e,b,X)]:cI).length)*128≤140737488355328∧a.length+([((((1 - 0):Nat):Int),U,R,V,W,P,e,b,X)]:cI).length < 9223372036854775808)∧
      r=(true,be,bi,bv,cc,cd,ce,ci,cl,co,a0,cs,c1,c2,dl,ds,d0,d1,A,B,C,D,E,F,dS,d,dY,h,G,H,I,J,K,L,M,N,O,(a ++([((((1 - 0):Nat):Int),U,R,V,W,P,e,b,X)]:cI)))
    )
  )
 ) else (
  (a5=1)∧
  ∃d2:List af,jN ((a.length:Nat):Int) d2∧
  ∃d3 d4 d5 d6 d7 d8 d9:K8,∃el em a3 eq es ex:U4,∃fd fn:K8,∃f0:U4,∃f1 Y:K8,∃S:U4,∃Z:K8,∃am Q:U4,∃j:List af,∃a4:Nat,mi A B C D E F dS d dY h G H I J K L M (1000#32) b d2 (d3,d4,d5,d6,d7,d8,d9,el,em,a3,eq,es,ex,fd,fn,f0,f1,Y,S,Z,am,Q,j,a4)∧
  if d=0#32 then (
    r=((decide (a4=165)),k,l,m,n,o,p,q,c,s,g,t,u,v,w,x,y,z,A,B,C,D,E,F,dS,d,dY,h,G,H,I,J,K,L,M,N,O,a)
  ) else (
    ∃f:List af,∃t268:Bool,(
     if a4≠0 then (
       f=j∧t268=true
     ) else (
       ((b.length+32) < 9223372036854775808)∧
       if j.length≠(b.length+32) then (
         f=j∧t268=true
       ) else (
         if Q≠h then (
           f=j∧t268=true
         ) else (
           if (S+(1#32))≠d then (
             f=j∧t268=true
           ) else (
             f=j∧t268=(decide (a3≠(Q+(1#32))))
           )
         )
       )
     )
    )∧
    if t268=true then (
      r=(false,k,l,m,n,o,p,q,c,s,g,t,u,v,w,x,y,z,A,B,C,D,E,F,dS,d,dY,h,G,H,I,J,K,L,M,N,O,a)
    ) else (
      ∃ap:List af,jN ((a.length:Nat):Int) ap∧
      ((a.length+([((((1 - 1):Nat):Int),Y,S,Z,am,Q,f,b,ap)]:cI).length)*128≤140737488355328∧a.length+([((((1 - 1):Nat):Int),Y,S,Z,am,Q,f,b,ap)]:cI).length < 9223372036854775808)∧
      r=(true,k,l,m,n,o,p,q,c,s,g,t,u,v,w,x,y,z,d3,d4,d5,d6,d7,d8,d9,el,em,a3,eq,es,ex,fd,fn,f0,f1,N,O,(a ++([((((1 - 1):Nat):Int),Y,S,Z,am,Q,f,b,ap)]:cI)))
    )
  )
 )
def mL (P Q R S T U V:K8) (W X Y Z am ap:U4) (a0 a2:K8) (a3:U4) (a4 y z A B C D dS:K8) (E dY F G H I:U4) (J K:K8) (L:U4) (M:K8) (v N:aZ) (a:cI) (a5 b:Int) (O:K8) (r:(Bool×K8×K8×K8×K8×K8×K8×K8×U4×U4×U4×U4×U4×U4×K8×K8×U4×K8×(aZ)×(aZ)×(cI))):Prop:=
 (0≤b∧b < a.length)∧
 ∃c d e f g h i:K8,∃j k l m n o:U4,∃p q:K8,∃s:U4,∃t:K8,∃u:aZ,∃w:List af,∃x:Nat,l3 y z A B C D dS E dY F G H I J K L M N 0 0 64 256 0 (1000#32) ((a.getD b.toNat bg).2.1) ((a.getD b.toNat bg).2.2.1) ((a.getD b.toNat bg).2.2.2.1) ((a.getD b.toNat bg).2.2.2.2.1) ((a.getD b.toNat bg).2.2.2.2.2.1) ((a.getD b.toNat bg).2.2.2.2.2.2.1) ((a.getD b.toNat bg).2.2.2.2.2.2.2.2) O (c,d,e,f,g,h,i,j,k,l,m,n,o,p,q,s,t,u,w,x)∧
 if x=0 then (
  r=((decide (w=(a.getD b.toNat bg).2.2.2.2.2.2.2.1)),c,d,e,f,g,h,i,j,k,l,m,n,o,p,q,s,t,v,u,a)
 ) else (
  r=(false,c,d,e,f,g,h,i,j,k,l,m,n,o,p,q,s,t,v,u,a)
 )
def mu (k e l:K8) (m:U4) (n:K8) (o p:U4) (a b:List af) (r:(Bool×Bool)):Prop:=
 ∃c:List af,∃f:Nat,(
  ∃g:List af,∃h:Nat,jj (List.replicate 32 0#8) (dl 32 k) (dl 10 (lit ([108#8,101#8,116#8,104#8,101#8,32#8,115#8,101#8,97#8,108#8]:List af))) 80 (g,h)∧
  c=g∧f=h
 )∧
 if f≠0 then (
  r=(false,false)
 ) else (
  if c.length≠80 then (
    r=(false,false)
  ) else (
    if a.length < 32 then (
      r=(false,false)
    ) else (
      (-9223372036854775808≤(((a.length:Nat):Int) - 32)∧(((a.length:Nat):Int) - 32)≤9223372036854775807)∧
      ((124+b.length) < 9223372036854775808)∧
      ∃i:K8,(
       (32≤64∧64≤c.length)∧
       (0≤(((a.length:Nat):Int) - 32))∧
       (0≤(((a.length:Nat):Int) - 32).toNat∧(((a.length:Nat):Int) - 32).toNat≤a.length)∧
       ((124+b.length) < 9223372036854775808)∧
       ∃d:List af,mm l m n o p d∧
       ∃q:K8,dy (aT c 32 64) ([(dl 64 e),d,b,(aT a 0 ((((a.length:Nat):Int) - 32).toNat)),([0#8,0#8,0#8,0#8,0#8,0#8,(BitVec.ofNat 8 ((124+b.length) / 2 ^ 8)),(BitVec.ofNat 8 (124+b.length))]:List af)]:List (List af)) q∧
       ∃s:K8,dy (aT c 32 64) ([(dl 64 e),d,b,(aT a 0 ((((a.length:Nat):Int) - 32).toNat)),([0#8,0#8,0#8,0#8,0#8,0#8,(BitVec.ofNat 8 ((124+b.length) / 2 ^ 8)),(BitVec.ofNat 8 (124+b.length))]:List af)]:List (List af)) s∧
       ∃t:K8,dy (aT c 32 64) ([(dl 64 e),d,b,(aT a 0 ((((a.length:Nat):Int) - 32).toNat)),([0#8,0#8,0#8,0#8,0#8,0#8,(BitVec.ofNat 8 ((124+b.length) / 2 ^ 8)),(BitVec.ofNat 8 (124+b.length))]:List af)]:List (List af)) t∧
       ∃j:K8,dy (aT c 32 64) ([(dl 64 e),d,b,(aT a 0 ((((a.length:Nat):Int) - 32).toNat)),([0#8,0#8,0#8,0#8,0#8,0#8,(BitVec.ofNat 8 ((124+b.length) / 2 ^ 8)),(BitVec.ofNat 8 (124+b.length))]:List af)]:List (List af)) j∧
       i=j
      )∧
      (0≤(((a.length:Nat):Int) - 32))∧
      ((((a.length:Nat):Int) - 32).toNat≤a.length∧a.length≤a.length)∧
      r=((decide ((dl 32 i)=(aT a ((((a.length:Nat):Int) - 32).toNat) a.length))),true)
    )
  )
 )
def iq (b a r:Int):Prop:=
 if a < 1 then (
  r=0
 ) else (
  (a≠0)∧
  r=((max b (ec (-(ec (b+1))))).tmod a)
 )
end Go.Proofs.YtjclppnbbpnfnaaGreatDoor
