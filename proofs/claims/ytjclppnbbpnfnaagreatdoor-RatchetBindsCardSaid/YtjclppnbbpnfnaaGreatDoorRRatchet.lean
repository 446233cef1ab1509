/-
 RELATIONS of the package's functions, printed by this session's own program (auto.py).
-/
import Derived.Test.YtjclppnbbpnfnaaGreatDoorEd
import Derived.Test.YtjclppnbbpnfnaaGreatDoorFldT
import Derived.Test.YtjclppnbbpnfnaaGreatDoorShaM
import Derived.Test.YtjclppnbbpnfnaaGreatDoorRChain
import Derived.Test.YtjclppnbbpnfnaaGreatDoorRCmp
import Derived.Test.YtjclppnbbpnfnaaGreatDoorRCurve
import Derived.Test.YtjclppnbbpnfnaaGreatDoorRHeader
import Derived.Test.YtjclppnbbpnfnaaGreatDoorRSeal
import Derived.Test.YtjclppnbbpnfnaaGreatDoorRSlices
namespace Go.Proofs.YtjclppnbbpnfnaaGreatDoor
set_option linter.unusedSimpArgs false
set_option linter.unusedVariables false
set_option linter.unusedSectionVars false
set_option maxRecDepth 8000
open Go Go.LW
def p_ (g h i b j c:K8) (r:(K8×K8×K8×K8×K8×K8×K8×U4×U4×U4×U4×U4×U4×K8×K8×U4×K8×Nat)):Prop:=
 ∃d:K8,∃a:Nat,fH b c (d,a)∧
 if a≠0 then (
  r=((fun _=>0#8),(fun _=>0#8),(fun _=>0#8),(fun _=>0#8),(fun _=>0#8),(fun _=>0#8),(fun _=>0#8),0#32,0#32,0#32,0#32,0#32,0#32,(fun _=>0#8),(fun _=>0#8),0#32,(fun _=>0#8),a)
 ) else (
  ∃e f:K8,k4 g d (e,f)∧
  r=(h,e,b,j,c,f,(fun _=>0#8),1#32,0#32,0#32,0#32,0#32,0#32,(fun _=>0#8),(fun _=>0#8),0#32,i,0)
 )
def sc (a b c d e:K8) (r:(K8×K8×K8×K8×K8×K8×K8×U4×U4×U4×U4×U4×U4×K8×K8×U4×K8)):Prop:=
 r=(b,a,d,e,(fun _=>0#8),(fun _=>0#8),(fun _=>0#8),0#32,0#32,0#32,0#32,0#32,0#32,(fun _=>0#8),(fun _=>0#8),0#32,c)
def kP (j k l m n o p:K8) (q s t u v w:U4) (x y:K8) (z:U4) (c d:K8) (e:U4) (f:K8) (g h:U4) (i:List af) (r:(List af)):Prop:=
 ∃a:List af,mm d e f g h a∧
 ∃b:List af,ox ([(dl 64 c),a,i]:List (List af)) b∧
 r=b
def mi (d j k e l m n:K8) (b o c p f g:U4) (q s:K8) (t:U4) (u:K8) (v:U4) (h w:List af) (r:(K8×K8×K8×K8×K8×K8×K8×U4×U4×U4×U4×U4×U4×K8×K8×U4×K8×K8×U4×K8×U4×U4×(List af)×Nat)):Prop:=
 ∃a:Nat,(
  ∃t47:Bool,(
   if 512 < h.length then (
     t47=(decide (512 < h.length))
   ) else (
     t47=(decide (64 < w.length))
   )
  )∧
  if t47=true then (
    a=5
  ) else (
    if b=0#32 then (
      a=165
    ) else (
      if v.toNat≤c.toNat then (
        a=130
      ) else (
        if v.toNat≤g.toNat then (
          a=130
        ) else (
          a=0
        )
      )
    )
  )
 )∧
 if a≠0 then (
  r=((fun _=>0#8),(fun _=>0#8),(fun _=>0#8),(fun _=>0#8),(fun _=>0#8),(fun _=>0#8),(fun _=>0#8),0#32,0#32,0#32,0#32,0#32,0#32,(fun _=>0#8),(fun _=>0#8),0#32,(fun _=>0#8),(fun _=>0#8),0#32,(fun _=>0#8),0#32,0#32,([]:List af),a)
 ) else (
  ∃x y:K8,jv m (x,y)∧
  ∃z:List af,kP d j k e l m n b o c p f g q s t u d (b - (1#32)) e f c w z∧
  ∃A:List af,∃i:Nat,nu y z h (A,i)∧
  if i≠0 then (
    r=((fun _=>0#8),(fun _=>0#8),(fun _=>0#8),(fun _=>0#8),(fun _=>0#8),(fun _=>0#8),(fun _=>0#8),0#32,0#32,0#32,0#32,0#32,0#32,(fun _=>0#8),(fun _=>0#8),0#32,(fun _=>0#8),(fun _=>0#8),0#32,(fun _=>0#8),0#32,0#32,([]:List af),i)
  ) else (
    r=(d,j,k,e,l,x,n,b,o,(c+(1#32)),p,f,(g+(1#32)),q,s,t,u,d,(b - (1#32)),e,f,c,A,0)
  )
 )
def jO (d e:U4) (h:K8) (f g:U4) (i:K8) (r:Int):Prop:=
 ∃a:Int,lZ d f a∧
 ∃b:Int,lZ e g b∧
 ∃c:Int,pY ([a,b]:List Int) c∧
 r=c
def xo (b:aZ) (r:Bool) (a:Nat) (c:Nat ⊕ (Option Unit)):Prop:=
 if a < b.length then (
  (-9223372036854775808≤(((a:Nat):Int) - 1)∧(((a:Nat):Int) - 1)≤9223372036854775807)∧
  (0≤(((a:Nat):Int) - 1)∧(((a:Nat):Int) - 1) < b.length)∧
  (a < b.length)∧
  ∃d:Int,jO ((b.getD ((((a:Nat):Int) - 1).toNat) (0#32,0#32,(fun _=>0#8))).1) ((b.getD ((((a:Nat):Int) - 1).toNat) (0#32,0#32,(fun _=>0#8))).2.1) ((b.getD ((((a:Nat):Int) - 1).toNat) (0#32,0#32,(fun _=>0#8))).2.2) ((b.getD a (0#32,0#32,(fun _=>0#8))).1) ((b.getD a (0#32,0#32,(fun _=>0#8))).2.1) ((b.getD a (0#32,0#32,(fun _=>0#8))).2.2) d∧
  if 0≤d then (
    c= .inr none∧r=false
  ) else (
    ((a+1) < 9223372036854775808)∧
    c= .inl (a+1)
  )
 ) else (
  c= .inr (some ())
 )
def qa (b:aZ) (r:Bool):Prop:=
 ∃a:Option Unit,Iter (xo b r) 1 a∧(a=some ()→
 r=true
 )
def ki (e f g h i j k:K8) (l a m c n o:U4) (p q:K8) (s:U4) (t:K8) (u:aZ) (v w x y z:Int) (A:U4) (B:K8) (b:U4) (C:K8) (D d:U4) (E:bb) (r:Bool):Prop:=
 if (b.toNat+1) < a.toNat then (
  r=true
 ) else (
  if (b.toNat+1)=a.toNat then (
    r=(decide (d.toNat < c.toNat))
  ) else (
    r=false
  )
 )
def ou (c:aZ) (f g:U4) (h:K8) (s:(Nat×Nat)) (d:(Nat×Nat) ⊕ Nat):Prop:=
 match s with
 | (a,b)=>
  if a < b then (
    ((a+b) < 9223372036854775808)∧
    (((BitVec.ofNat 64 (a+b)) >>> 1).toNat < 9223372036854775808)∧
    (((BitVec.ofNat 64 (a+b)) >>> 1).toNat < c.length)∧
    ∃e:Int,jO ((c.getD (((BitVec.ofNat 64 (a+b)) >>> 1).toNat) (0#32,0#32,(fun _=>0#8))).1) ((c.getD (((BitVec.ofNat 64 (a+b)) >>> 1).toNat) (0#32,0#32,(fun _=>0#8))).2.1) ((c.getD (((BitVec.ofNat 64 (a+b)) >>> 1).toNat) (0#32,0#32,(fun _=>0#8))).2.2) f g h e∧
    if e < 0 then (
      (((((BitVec.ofNat 64 (a+b)) >>> 1).toNat)+1) < 9223372036854775808)∧
      d= .inl (((((BitVec.ofNat 64 (a+b)) >>> 1).toNat)+1),b)
    ) else (
      d= .inl (a,((BitVec.ofNat 64 (a+b)) >>> 1).toNat)
    )
  ) else (
    d= .inr a
  )
def qR (b:aZ) (c d:U4) (e:K8) (r:(Nat×Bool)):Prop:=
 ∃a:Nat,Iter (ou b c d e) (0,b.length) a∧
 if a < b.length then (
  (a < b.length)∧
  ∃f:Int,jO ((b.getD a (0#32,0#32,(fun _=>0#8))).1) ((b.getD a (0#32,0#32,(fun _=>0#8))).2.1) ((b.getD a (0#32,0#32,(fun _=>0#8))).2.2) c d e f∧
  r=(a,(decide (f=0)))
 ) else (
  r=(a,false)
 )
def ni (c:aZ) (d e:U4) (r:(Nat×Bool)):Prop:=
 ∃a:Nat,∃b:Bool,qR c d e (fun _=>0#8) (a,b)∧
 r=(a,b)
def rB (k l m n o p q:K8) (s t u v w x:U4) (y z:K8) (A:U4) (B:K8) (a:aZ) (H I J K L:Int) (M:U4) (C:K8) (e:U4) (D:K8) (E f:U4) (c:bb) (F G:List af) (r:((List af)×Nat×(aZ)×(bb))):Prop:=
 ∃b:Nat,∃g:Bool,ni a e f (b,g)∧
 if g=true then (
  (b < a.length)∧
  ∃h:List af,kP k l m n o p q s t u v w x y z A B C e D E f G h∧
  ∃i:List af,∃d:Nat,jb ((a.getD b (0#32,0#32,(fun _=>0#8))).2.2) h F (i,d)∧
  if d≠0 then (
    r=(([]:List af),d,a,c)
  ) else (
    ((b+1) < 9223372036854775808)∧
    ∃j:aZ,rb a ((b:Nat):Int) (((b+1):Nat):Int) j∧
    r=(i,0,j,c)
  )
 ) else (
  r=(([]:List af),161,a,c)
 )
def nx (o p q s m t u:K8) (l g v d w x:U4) (y z:K8) (A:U4) (B:K8) (b:aZ) (C D i E F:Int) (j:U4) (G:K8) (h:U4) (n:K8) (e f:U4) (a:bb) (r:(Nat×(aZ)×(bb))):Prop:=
 if g.toNat < h.toNat then (
  r=(162,b,a)
 ) else (
  if j.toNat≤f.toNat then (
    r=(130,b,a)
  ) else (
    if j.toNat≤h.toNat then (
      r=(130,b,a)
    ) else (
      if h≠g then (
        if (c9 32 n m)=true then (
          if i < (((f.toNat:Nat):Int) - ((d.toNat:Nat):Int)) then (
            r=(164,b,a)
          ) else (
            r=(0,b,([(h,((d.toNat:Nat):Int),((f.toNat:Nat):Int))]:bb))
          )
        ) else (
          r=(163,b,a)
        )
      ) else (
        ∃c:Bool,(
         if g=0#32 then (
           if e.toNat≠0 then (
             c=false∧r=(163,b,a)
           ) else (
             if i < ((f.toNat:Nat):Int) then (
               c=false∧r=(164,b,a)
             ) else (
               if j.toNat≤l.toNat then (
                 c=false∧r=(130,b,a)
               ) else (
                 c=true
               )
             )
           )
         ) else (
           if e.toNat < d.toNat then (
             c=false∧r=(163,b,a)
           ) else (
             if j.toNat < e.toNat then (
               c=false∧r=(130,b,a)
             ) else (
               ∃t151:Bool,(
                if i < (((e.toNat:Nat):Int) - ((d.toNat:Nat):Int)) then (
                  t151=(decide (i < (((e.toNat:Nat):Int) - ((d.toNat:Nat):Int))))
                ) else (
                  t151=(decide (i < ((f.toNat:Nat):Int)))
                )
               )∧
               if t151=true then (
                 c=false∧r=(164,b,a)
               ) else (
                 if j.toNat≤l.toNat then (
                   c=false∧r=(130,b,a)
                 ) else (
                   c=true
                 )
               )
             )
           )
         )
        )∧
        (c=true→
        ∃k:bb,(
         if (0#32).toNat < g.toNat then (
           ((a.length+([((g - (1#32)),((d.toNat:Nat):Int),((e.toNat:Nat):Int))]:bb).length)*24≤140737488355328∧a.length+([((g - (1#32)),((d.toNat:Nat):Int),((e.toNat:Nat):Int))]:bb).length < 9223372036854775808)∧
           k=(a ++([((g - (1#32)),((d.toNat:Nat):Int),((e.toNat:Nat):Int))]:bb))
         ) else (
           k=a
         )
        )∧
        ((k.length+([(h,0,((f.toNat:Nat):Int))]:bb).length)*24≤140737488355328∧k.length+([(h,0,((f.toNat:Nat):Int))]:bb).length < 9223372036854775808)∧
        r=(0,b,(k ++([(h,0,((f.toNat:Nat):Int))]:bb)))
        )
      )
    )
  )
 )
def sL (a:bb) (s:(Int×Nat)) (c:(Int×Nat) ⊕ Int):Prop:=
 match s with
 | (b,t62)=>
  if t62 < a.length then (
    (t62 < a.length)∧
    (-9223372036854775808≤(((a.getD t62 (0#32,(0:Int),(0:Int))).2.2) - ((a.getD t62 (0#32,(0:Int),(0:Int))).2.1))∧(((a.getD t62 (0#32,(0:Int),(0:Int))).2.2) - ((a.getD t62 (0#32,(0:Int),(0:Int))).2.1))≤9223372036854775807)∧
    (-9223372036854775808≤(b+(((a.getD t62 (0#32,(0:Int),(0:Int))).2.2) - ((a.getD t62 (0#32,(0:Int),(0:Int))).2.1)))∧(b+(((a.getD t62 (0#32,(0:Int),(0:Int))).2.2) - ((a.getD t62 (0#32,(0:Int),(0:Int))).2.1)))≤9223372036854775807)∧
    ((t62+1) < 9223372036854775808)∧
    c= .inl ((b+(((a.getD t62 (0#32,(0:Int),(0:Int))).2.2) - ((a.getD t62 (0#32,(0:Int),(0:Int))).2.1))),(t62+1))
  ) else (
    c= .inr b
  )
def mz (e:aZ) (f b:U4) (c:bb) (t220:Nat) (h:Nat ⊕ (Option Unit)) (r:(Nat×(aZ)×(bb))) (a:Int) (d:Int ⊕ (Option Unit)):Prop:=
 if a < ((c ++([(f,((b.toNat:Nat):Int),(((b.toNat+1):Nat):Int))]:bb)).getD t220 (0#32,(0:Int),(0:Int))).2.2 then (
  ∃i:Nat,∃g:Bool,ni e (((c ++([(f,((b.toNat:Nat):Int),(((b.toNat+1):Nat):Int))]:bb)).getD t220 (0#32,(0:Int),(0:Int))).1) (BitVec.ofInt 32 a) (i,g)∧
  if g=true then (
    d= .inr none∧h= .inr none∧r=(151,e,c)
  ) else (
    (-9223372036854775808≤(a+1)∧(a+1)≤9223372036854775807)∧
    d= .inl (a+1)
  )
 ) else (
  d= .inr (some ())
 )
def p' (f:aZ) (b a:U4) (c:bb) (r:(Nat×(aZ)×(bb))) (t220:Nat) (d:Nat ⊕ (Option Unit)):Prop:=
 if t220 < (c ++([(b,((a.toNat:Nat):Int),(((a.toNat+1):Nat):Int))]:bb)).length then (
  (t220 < (c ++([(b,((a.toNat:Nat):Int),(((a.toNat+1):Nat):Int))]:bb)).length)∧
  ∃e:Option Unit,Iter (mz f b a c t220 d r) (((c ++([(b,((a.toNat:Nat):Int),(((a.toNat+1):Nat):Int))]:bb)).getD t220 (0#32,(0:Int),(0:Int))).2.1) e∧(e=some ()→
  ((t220+1) < 9223372036854775808)∧
  d= .inl (t220+1)
  )
 ) else (
  d= .inr (some ())
 )
def mn (i j k l m n o:K8) (p q s t u v:U4) (w x:K8) (y:U4) (z:K8) (a:aZ) (A B C h D:Int) (E:U4) (F:K8) (f:U4) (G:K8) (H c:U4) (b:bb) (r:(Nat×(aZ)×(bb))):Prop:=
 ∃d:Int,Iter (sL b) (0,0) d∧
 ∃e:Bool,(
  if 0 < d then (
    (-9223372036854775808≤(d+((a.length:Nat):Int))∧(d+((a.length:Nat):Int))≤9223372036854775807)∧
    if h < (d+((a.length:Nat):Int)) then (
      e=false∧r=(150,a,b)
    ) else (
      e=true
    )
  ) else (
    e=true
  )
 )∧
 (e=true→
 ((b.length+([(f,((c.toNat:Nat):Int),(((c.toNat+1):Nat):Int))]:bb).length)*24≤140737488355328∧b.length+([(f,((c.toNat:Nat):Int),(((c.toNat+1):Nat):Int))]:bb).length < 9223372036854775808)∧
 ∃g:Option Unit,Iter (p' a f c b r) 0 g∧(g=some ()→
 r=(0,a,b)
 )
 )
def rm (d:U4) (h:Int) (s:(Int×K8×(aZ))) (e:(Int×K8×(aZ)) ⊕ (K8×(aZ))):Prop:=
 match s with
 | (a,f,b)=>
  if a < h then (
    ∃g c:K8,jv f (g,c)∧
    ((b.length+([(d,(BitVec.ofInt 32 a),c)]:aZ).length)*40≤140737488355328∧b.length+([(d,(BitVec.ofInt 32 a),c)]:aZ).length < 9223372036854775808)∧
    (-9223372036854775808≤(a+1)∧(a+1)≤9223372036854775807)∧
    e= .inl ((a+1),g,(b ++([(d,(BitVec.ofInt 32 a),c)]:aZ)))
  ) else (
    e= .inr (f,b)
  )
def lE (i j k l m n o:K8) (p q s t u v:U4) (w x:K8) (y:U4) (z:K8) (c:aZ) (A B C D E:Int) (F:U4) (G:K8) (H:U4) (I:K8) (J K:U4) (d:bb) (e:K8) (f:U4) (g h:Int) (r:(K8×(aZ)×(bb))):Prop:=
 ∃a:K8,∃b:aZ,Iter (rm f h) (g,e,c) (a,b)∧
 r=(a,b,d)
def nM (y o p v h i w:K8) (b c d z j A:U4) (B C:K8) (D:U4) (E:K8) (F:aZ) (G H I J K:Int) (L:U4) (M:K8) (N:U4) (k:K8) (O P:U4) (Q:bb) (x:K8) (r:(Nat×K8×K8×K8×K8×K8×K8×U4×U4×U4×U4)):Prop:=
 ∃q:K8,∃l:Nat,fH p k (q,l)∧
 if l≠0 then (
  r=(l,o,p,v,h,i,w,b,c,d,j)
 ) else (
  ∃e f:K8,k4 o q (e,f)∧
  ∃a g:K8,∃m:Nat,k' (dl 32 x) (a,g,m)∧
  if m≠0 then (
    r=(m,e,a,g,h,i,f,b,c,d,j)
  ) else (
    ∃s:K8,∃n:Nat,fH a k (s,n)∧
    if n≠0 then (
      r=(n,e,a,g,h,i,f,b,c,d,j)
    ) else (
      ∃t u:K8,k4 e s (t,u)∧
      r=(0,t,a,g,k,u,f,(b+(1#32)),(c+(1#32)),0#32,d)
    )
  )
 )
def k6 (q G H I J K s:K8) (L t M b N u:U4) (v w:K8) (z:U4) (A:K8) (O:aZ) (P Q R S T:Int) (U:U4) (B:K8) (m:U4) (C:K8) (D n:U4) (a:bb) (c2 dl:List af) (ds:K8) (r:((List af)×Nat×K8×K8×K8×K8×K8×K8×U4×U4×U4×U4×U4×(aZ)×(bb))):Prop:=
 (-9223372036854775808≤(((a.length:Nat):Int) - 1)∧(((a.length:Nat):Int) - 1)≤9223372036854775807)∧
 (0≤(((a.length:Nat):Int) - 1)∧(((a.length:Nat):Int) - 1) < a.length)∧
 ∃E:Bool,∃c d e f g h:K8,∃i j k l:U4,∃V:aZ,∃W:bb,(
  if m=t then (
    ∃o:aZ,∃p:bb,(
     if 1 < a.length then (
       (0 < a.length)∧
       ∃d0:K8,∃cd:aZ,∃ce:bb,lE q G H I J K s L t M b N u v w z A O P Q R S T U B m C D n a s ((a.getD 0 (0#32,(0:Int),(0:Int))).1) ((a.getD 0 (0#32,(0:Int),(0:Int))).2.1) ((a.getD 0 (0#32,(0:Int),(0:Int))).2.2) (d0,cd,ce)∧
       o=cd∧p=ce
     ) else (
       o=O∧p=a
     )
    )∧
    ∃X:Nat,∃Y Z am ap a0 a2:K8,∃a3 a4 a5 a9:U4,nM q G H I J K s L t M b N u v w z A o P Q R S T U B m C D n p ds (X,Y,Z,am,ap,a0,a2,a3,a4,a5,a9)∧
    if X≠0 then (
      E=false∧r=(([]:List af),X,Y,Z,am,ap,a0,a2,a3,a4,a5,b,a9,o,p)
    ) else (
      E=true∧c=Y∧d=Z∧e=am∧f=ap∧g=a0∧h=a2∧i=a3∧j=a4∧k=a5∧l=a9∧V=o∧W=p
    )
  ) else (
    E=true∧c=G∧d=H∧e=I∧f=J∧g=K∧h=s∧i=L∧j=t∧k=M∧l=N∧V=O∧W=a
  )
 )∧
 (E=true→
 ∃ci:K8,∃F:aZ,∃be:bb,lE q c d e f g h i j k b l u v w z A V P Q R S T U B m C D n W h ((a.getD ((((a.length:Nat):Int) - 1).toNat) (0#32,(0:Int),(0:Int))).1) ((a.getD ((((a.length:Nat):Int) - 1).toNat) (0#32,(0:Int),(0:Int))).2.1) ((a.getD ((((a.length:Nat):Int) - 1).toNat) (0#32,(0:Int),(0:Int))).2.2) (ci,F,be)∧
 ∃cl co:K8,jv ci (cl,co)∧
 ∃cs:List af,kP q c d e f g h i j k b l u v w z A B m C D n dl cs∧
 ∃c1:List af,∃bi:Nat,jb co cs c2 (c1,bi)∧
 if bi≠0 then (
  r=(([]:List af),bi,c,d,e,f,g,h,i,j,k,b,l,F,be)
 ) else (
  (F.length < 4611686018427387904)∧
  ∃bv:(U4×U4×K8)→(U4×U4×K8)→Int,(∀x y,jO x.1 x.2.1 x.2.2 y.1 y.2.1 y.2.2 (bv x y))∧Sort.SWO (Proofs.ltOf bv)∧∀cc:aZ,cc.Perm F→cc.Pairwise (fun x y=>¬bv y x < 0)→
  r=(c1,0,c,d,e,f,g,cl,i,j,k,(n+(1#32)),l,cc,be)
 )
 )
def nD (l a b c d e f:K8) (g h i j k m:U4) (n o:K8) (p:U4) (q:K8) (D:aZ) (s t u v w:Int) (x:U4) (y:K8) (z:U4) (A:K8) (B C:U4) (E:bb) (L M:List af) (a9:K8) (r:((List af)×Nat×K8×K8×K8×K8×K8×K8×U4×U4×U4×U4×U4×(aZ)×(bb))):Prop:=
 ∃N:Bool,ki l a b c d e f g h i j k m n o p q D s t u v w x y z A B C E N∧
 if N=true then (
  ∃O:List af,∃P:Nat,∃Q:aZ,∃R:bb,rB l a b c d e f g h i j k m n o p q D s t u v w x y z A B C E L M (O,P,Q,R)∧
  r=(O,P,a,b,c,d,e,f,g,h,i,j,k,Q,R)
 ) else (
  ∃F:Nat,∃G:aZ,∃H:bb,nx l a b c d e f g h i j k m n o p q D s t u v w x y z A B C E (F,G,H)∧
  if F≠0 then (
    r=(([]:List af),F,a,b,c,d,e,f,g,h,i,j,k,G,H)
  ) else (
    ∃I:Nat,∃J:aZ,∃K:bb,mn l a b c d e f g h i j k m n o p q G s t u v w x y z A B C H (I,J,K)∧
    if I≠0 then (
      r=(([]:List af),I,a,b,c,d,e,f,g,h,i,j,k,J,K)
    ) else (
      ∃S:List af,∃T:Nat,∃U V W X Y Z:K8,∃am ap a0 a2 a3:U4,∃a4:aZ,∃a5:bb,k6 l a b c d e f g h i j k m n o p q J s t u v w x y z A B C K L M a9 (S,T,U,V,W,X,Y,Z,am,ap,a0,a2,a3,a4,a5)∧
      r=(S,T,U,V,W,X,Y,Z,am,ap,a0,a2,a3,a4,a5)
    )
  )
 )
def l3 (b B C D E F G:K8) (H I J K L f:U4) (M N:K8) (O:U4) (g:K8) (h:aZ) (P Q c d R:Int) (S:U4) (i:K8) (T:U4) (U:K8) (V W:U4) (X j:List af) (Y:K8) (r:(K8×K8×K8×K8×K8×K8×K8×U4×U4×U4×U4×U4×U4×K8×K8×U4×K8×(aZ)×(List af)×Nat)):Prop:=
 ∃a:Nat,(
  ∃t67:Bool,(
   if c < 0 then (
     t67=true
   ) else (
     if 64 < c then (
       t67=true
     ) else (
       if d < 0 then (
         t67=true
       ) else (
         t67=(decide (256 < d))
       )
     )
   )
  )∧
  if t67=true then (
    a=2
  ) else (
    if 64 < j.length then (
      a=5
    ) else (
      ∃k:Bool,qa h k∧
      if k=true then (
        if (c9 16 i b)=true then (
          a=0
        ) else (
          a=160
        )
      ) else (
        a=111
      )
    )
  )
 )∧
 if a≠0 then (
  r=((fun _=>0#8),(fun _=>0#8),(fun _=>0#8),(fun _=>0#8),(fun _=>0#8),(fun _=>0#8),(fun _=>0#8),0#32,0#32,0#32,0#32,0#32,0#32,(fun _=>0#8),(fun _=>0#8),0#32,(fun _=>0#8),([]:aZ),([]:List af),a)
 ) else (
  ∃l:aZ,rj h l∧
  ∃m:List af,∃e:Nat,∃n o p q s t:K8,∃u v w x y:U4,∃z:aZ,∃Z:bb,nD b B C D E F G H I J K L f M N O g l P Q c d R S i T U V W ([]:bb) X j Y (m,e,n,o,p,q,s,t,u,v,w,x,y,z,Z)∧
  if e≠0 then (
    r=((fun _=>0#8),(fun _=>0#8),(fun _=>0#8),(fun _=>0#8),(fun _=>0#8),(fun _=>0#8),(fun _=>0#8),0#32,0#32,0#32,0#32,0#32,0#32,(fun _=>0#8),(fun _=>0#8),0#32,(fun _=>0#8),([]:aZ),([]:List af),e)
  ) else (
    ∃A:aZ,qV z A∧
    r=(b,n,o,p,q,s,t,u,v,w,x,y,f,(fun _=>0#8),(fun _=>0#8),0#32,g,A,m,0)
  )
 )
end Go.Proofs.YtjclppnbbpnfnaaGreatDoor
