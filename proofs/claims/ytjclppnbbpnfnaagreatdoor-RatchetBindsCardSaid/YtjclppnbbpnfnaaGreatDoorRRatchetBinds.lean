/-
 RELATIONS of the package's functions, printed by this session's own program (auto.py).
-/
import Derived.Test.YtjclppnbbpnfnaaGreatDoorEd
import Derived.Test.YtjclppnbbpnfnaaGreatDoorFldT
import Derived.Test.YtjclppnbbpnfnaaGreatDoorShaM
import Derived.Test.YtjclppnbbpnfnaaGreatDoorRChain
import Derived.Test.YtjclppnbbpnfnaaGreatDoorRLaw16
import Derived.Test.YtjclppnbbpnfnaaGreatDoorRRatchet
namespace Go.Proofs.YtjclppnbbpnfnaaGreatDoor
set_option linter.unusedSimpArgs false
set_option linter.unusedVariables false
set_option linter.unusedSectionVars false
set_option maxRecDepth 8000
open Go Go.LW
def pZ (j Y:K8) (mp c:List af) (ms Z:Int) (r:Bool):Prop:=
 ((∃am:Bool,lr j Y (.inl am)∧
  if am=true then (
    False
  ) else (
    r=false
  )
 )∨(∃ap a0 a2 a3 a4 a5 a9:K8,∃be bi bv cc cd ce:U4,∃ci cl:K8,∃co:U4,∃cs c1 c2 ds d0 d1 d2 d3:K8,∃d4 d5 d6 d7 d8 d9:U4,∃el em:K8,∃eq:U4,∃es:K8,∃ex fd:aZ,∃fn:cI,∃d:Nat,∃f0:Bool,lr j Y (.inr (ap,a0,a2,a3,a4,a5,a9,be,bi,bv,cc,cd,ce,ci,cl,co,cs,c1,c2,ds,d0,d1,d2,d3,d4,d5,d6,d7,d8,d9,el,em,eq,es,ex,fd,fn,d,f0))∧
  if f0=true then (
    ∃f1:Bool,∃f2 f3 f4 f5 f6 k f7:K8,∃f8 f9 f' gc gd ge:U4,∃go gs:K8,∃gt:U4,∃g0 g1 g2 g3 g4 g5 g6 g7:K8,∃g8 g9 he hi hk hm:U4,∃hu hw:K8,∃hH:U4,∃hO:K8,∃h1 id:aZ,∃ii:cI,l8 ap a0 a2 a3 a4 a5 a9 be bi bv cc cd ce ci cl co cs c1 c2 ds d0 d1 d2 d3 d4 d5 d6 d7 d8 d9 el em eq es ex fd fn ((d:Nat):Int) 0 (dl 5 (lit ([102#8,105#8,114#8,115#8,116#8]:List af))) (f1,f2,f3,f4,f5,f6,k,f7,f8,f9,f',gc,gd,ge,go,gs,gt,g0,g1,g2,g3,g4,g5,g6,g7,g8,g9,he,hi,hk,hm,hu,hw,hH,hO,h1,id,ii)∧
    if f1=true then (
      ∃mt l:K8,jv k (mt,l)∧
      ∃io:Bool,∃m n o p q s t:K8,∃u v w x y z:U4,∃A B:K8,∃C:U4,∃D ip is it i0 i1 i2 i3:K8,∃i4 i5 i6 i7 i8 i9:U4,∃jd jp:K8,∃kk:U4,∃kw:K8,∃lc ld:aZ,∃le:cI,l8 f2 f3 f4 f5 f6 k f7 f8 f9 f' gc gd ge go gs gt g0 g1 g2 g3 g4 g5 g6 g7 g8 g9 he hi hk hm hu hw hH hO h1 id ii ((d:Nat):Int) 0 mp (io,m,n,o,p,q,s,t,u,v,w,x,y,z,A,B,C,D,ip,is,it,i0,i1,i2,i3,i4,i5,i6,i7,i8,i9,jd,jp,kk,kw,lc,ld,le)∧
      if io=true then (
        ∃h m0:K8,∃li:Bool,kT j 2 (h,m0,li)∧
        if li=true then (
          ∃lm:Bool,∃E F G H I J K:K8,∃L M N O P Q:U4,∃R S:K8,∃T:U4,∃U:K8,∃lo V:aZ,∃a:cI,mL m n o p q s t u v w x y z A B C D ip is it i0 i1 i2 i3 i4 i5 i6 i7 i8 i9 jd jp kk kw lc ld le ((d:Nat):Int) 0 h (lm,E,F,G,H,I,J,K,L,M,N,O,P,Q,R,S,T,U,lo,V,a)∧
          if lm=true then (
            (1 < a.length)∧
            ∃ls lt:Bool,mu l (an (fun _=>0#8) 0 (7#8)) ((a.getD 1 bg).2.1) ((a.getD 1 bg).2.2.1) ((a.getD 1 bg).2.2.2.1) ((a.getD 1 bg).2.2.2.2.1) ((a.getD 1 bg).2.2.2.2.2.1) ((a.getD 1 bg).2.2.2.2.2.2.1) ((a.getD 1 bg).2.2.2.2.2.2.2.2) (ls,lt)∧
            if ls=true then (
              if lt=true then (
                (0+((a.getD 1 bg).2.2.2.2.2.2.1).length≤140737488355328)∧
                ∃e f:List af,∃g:U4,(
                 ∃W:Int,iq ms 3 W∧
                 if W=0 then (
                   ((8*((([]:List af) ++((a.getD 1 bg).2.2.2.2.2.2.1)).length)) < 9223372036854775808)∧
                   ∃b:Int,iq Z (((8*((([]:List af) ++((a.getD 1 bg).2.2.2.2.2.2.1)).length)):Nat):Int) b∧
                   (-9223372036854775808≤(b.tdiv 8)∧(b.tdiv 8)≤9223372036854775807)∧
                   (0≤(b.tdiv 8)∧(b.tdiv 8) < (([]:List af) ++((a.getD 1 bg).2.2.2.2.2.2.1)).length)∧
                   (0≤(b.tmod 8))∧
                   (0≤(b.tdiv 8)∧(b.tdiv 8) < (([]:List af) ++((a.getD 1 bg).2.2.2.2.2.2.1)).length)∧
                   e=((([]:List af) ++((a.getD 1 bg).2.2.2.2.2.2.1)).set ((b.tdiv 8).toNat) ((lit (([]:List af) ++((a.getD 1 bg).2.2.2.2.2.2.1)) ((b.tdiv 8).toNat)) ^^^ ((1#8) <<< ((b.tmod 8).toNat))))∧f=(a.getD 1 bg).2.2.2.2.2.2.2.2∧g=(a.getD 1 bg).2.2.2.2.1
                 ) else (
                   if W=1 then (
                     ∃i:Int,iq Z 1000 i∧
                     (-9223372036854775808≤(1+i)∧(1+i)≤9223372036854775807)∧
                     e=(([]:List af) ++((a.getD 1 bg).2.2.2.2.2.2.1))∧f=(a.getD 1 bg).2.2.2.2.2.2.2.2∧g=(BitVec.ofInt 32 (1+i))
                   ) else (
                     (0≤(min c.length 63)∧(min c.length 63)≤c.length)∧
                     (([9#8]:List af).length+(aT c 0 (min c.length 63)).length≤140737488355328)∧
                     e=(([]:List af) ++((a.getD 1 bg).2.2.2.2.2.2.1))∧f=(([9#8]:List af) ++(aT c 0 (min c.length 63)))∧g=(a.getD 1 bg).2.2.2.2.1
                   )
                 )
                )∧
                ∃lw md:Bool,mu l (an (fun _=>0#8) 0 (7#8)) ((a.getD 1 bg).2.1) ((a.getD 1 bg).2.2.1) ((a.getD 1 bg).2.2.2.1) g ((a.getD 1 bg).2.2.2.2.2.1) e f (lw,md)∧
                if md=true then (
                  ∃m1 m2 m3 m4 m5 m6 m7:K8,∃m8 m9 m' ne nl no:U4,∃n5 n6:K8,∃n7:U4,∃n8:K8,∃ok:aZ,∃ol:List af,∃X:Nat,l3 E F G H I J K L M N O P Q R S T U V 0 0 64 256 0 (1000#32) ((a.getD 1 bg).2.1) ((a.getD 1 bg).2.2.1) ((a.getD 1 bg).2.2.2.1) g ((a.getD 1 bg).2.2.2.2.2.1) e f h (m1,m2,m3,m4,m5,m6,m7,m8,m9,m',ne,nl,no,n5,n6,n7,n8,ok,ol,X)∧
                  if lw=true then (
                    r=(decide (X=0))
                  ) else (
                    if X=50 then (
                      ∃mk:Bool,∃on op or os o' pi pl:K8,∃pm pp ps pu qr rc:U4,∃rd rg:K8,∃ro:U4,∃rs:K8,∃rt rx:aZ,∃sp:cI,mL m n o p q s t u v w x y z A B C D E F G H I J K L M N O P Q R S T U lo V a ((d:Nat):Int) 1 h (mk,on,op,or,os,o',pi,pl,pm,pp,ps,pu,qr,rc,rd,rg,ro,rs,rt,rx,sp)∧
                      r=mk
                    ) else (
                      r=false
                    )
                  )
                ) else (
                  r=false
                )
              ) else (
                r=false
              )
            ) else (
              r=false
            )
          ) else (
            r=false
          )
        ) else (
          r=false
        )
      ) else (
        r=false
      )
    ) else (
      r=false
    )
  ) else (
    r=false
  )
 ))
end Go.Proofs.YtjclppnbbpnfnaaGreatDoor
