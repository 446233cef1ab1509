/-
 RELATIONS of the package's functions, printed by this session's own program (auto.py).
-/
import Derived.Test.YtjclppnbbpnfnaaGreatDoorEd
import Derived.Test.YtjclppnbbpnfnaaGreatDoorFldT
import Derived.Test.YtjclppnbbpnfnaaGreatDoorShaM
namespace Go.Proofs.YtjclppnbbpnfnaaGreatDoor
set_option linter.unusedSimpArgs false
set_option linter.unusedVariables false
set_option linter.unusedSectionVars false
open Go Go.LW
def pU (b:BitVec 8) (s:((BitVec 8)×Nat)) (c:((BitVec 8)×Nat) ⊕ (BitVec 8)):Prop:=
 match s with
 | (d,a)=>
  if a≤4 then (
    c= .inl ((d ^^^ ((b <<< a) ||| (b >>> (8 - a)))),(a+1))
  ) else (
    c= .inr d
  )
def mC (b c:BitVec 8) (d e f:K8) (r:(K8×K8)):Prop:=
 ∃a:BitVec 8,Iter (pU c) (c,1) a∧
 r=((an d b.toNat (a ^^^ (99#8))),(an e ((a ^^^ (99#8)).toNat) b))
def k2 (s:((BitVec 8)×(BitVec 8)×(BitVec 8))) (c:((BitVec 8)×(BitVec 8)×(BitVec 8)) ⊕ (BitVec 8)):Prop:=
 match s with
 | (a41,a,d)=>
  if a≠0#8 then (
    ∃b:BitVec 8,(
     if (a &&& (1#8))=1#8 then (
       b=(d ^^^ a41)
     ) else (
       b=d
     )
    )∧
    if (a41 &&& (128#8))≠0#8 then (
      c= .inl (((a41 <<< 1) ^^^ (27#8)),(a >>> 1),b)
    ) else (
      c= .inl ((a41 <<< 1),(a >>> 1),b)
    )
  ) else (
    c= .inr d
  )
def jG (b c:BitVec 8) (r:(BitVec 8)):Prop:=
 ∃a:BitVec 8,Iter (k2) (b,c,0#8) a∧
 r=a
def pk (s:((BitVec 8)×(BitVec 8)×Nat×K8×K8)) (a:((BitVec 8)×(BitVec 8)×Nat×K8×K8) ⊕ (K8×K8)):Prop:=
 match s with
 | (b,c,t51,d,e)=>
  if t51 < 255 then (
    ∃f g:K8,mC b c d e (fun _=>0#8) (f,g)∧
    ∃h:BitVec 8,jG b (3#8) h∧
    ∃i:BitVec 8,jG c (246#8) i∧
    a= .inl (h,i,(t51+1),f,g)
  ) else (
    a= .inr (d,e)
  )
def oO (s:(Nat×K8)) (a:(Nat×K8) ⊕ K8):Prop:=
 match s with
 | (t95,b)=>
  if t95 < 256 then (
    ∃c:BitVec 8,jG (BitVec.ofNat 8 t95) (2#8) c∧
    a= .inl ((t95+1),(an b t95 c))
  ) else (
    a= .inr b
  )
def pT (r:(K8×K8×K8)):Prop:=
 ∃a b:K8,mC (0#8) (0#8) (fun _=>0#8) (fun _=>0#8) (fun _=>0#8) (a,b)∧
 ∃c d:K8,Iter (pk) (1#8,1#8,0,a,b) (c,d)∧
 ∃e:K8,Iter (oO) (0,(fun _=>0#8)) e∧
 r=(c,d,e)
def pE (t182:Nat) (c:K8) (s:(Nat×K8)) (b:(Nat×K8) ⊕ K8):Prop:=
 match s with
 | (t250,a)=>
  if t250 < 4 then (
    b= .inl ((t250+1),(an a (t182*4+t250) ((a ((t182 - 8)*4+t250)) ^^^ (c t250))))
  ) else (
    b= .inr a
  )
def pB (b:K8) (c:List af) (s:((BitVec 8)×Nat×K8)) (g:((BitVec 8)×Nat×K8) ⊕ K8):Prop:=
 match s with
 | (d,t182,a)=>
  if t182 < 60 then (
    if t182 < 8 then (
      ((4*t182)≤c.length∧c.length≤c.length)∧
      g= .inl (d,(t182+1),(bh a (t182*4) (min ((aT c (4*t182) c.length).length) 4) (lit (aT c (4*t182) c.length))))
    ) else (
      ∃e:BitVec 8,∃f:K8,(
       if (t182 % 8)=0 then (
         ∃h:BitVec 8,jG d (2#8) h∧
         e=h∧f=(lit [((b (((fun q=>a (((t182 - 1)*4)+q)) 1).toNat)) ^^^ d),(b (((fun q=>a (((t182 - 1)*4)+q)) 2).toNat)),(b (((fun q=>a (((t182 - 1)*4)+q)) 3).toNat)),(b (((fun q=>a (((t182 - 1)*4)+q)) 0).toNat))])
       ) else (
         if (t182 % 8)=4 then (
           e=d∧f=(lit [(b (((fun q=>a (((t182 - 1)*4)+q)) 0).toNat)),(b (((fun q=>a (((t182 - 1)*4)+q)) 1).toNat)),(b (((fun q=>a (((t182 - 1)*4)+q)) 2).toNat)),(b (((fun q=>a (((t182 - 1)*4)+q)) 3).toNat))])
         ) else (
           e=d∧f=(fun q=>a (((t182 - 1)*4)+q))
         )
       )
      )∧
      ∃i:K8,Iter (pE t182 f) (0,a) i∧
      g= .inl (e,(t182+1),i)
    )
  ) else (
    g= .inr a
  )
def o9 (d:K8) (s:(Nat×K8)) (b:(Nat×K8) ⊕ K8):Prop:=
 match s with
 | (a,c)=>
  if a < 60 then (
    ((4*(a % 4))≤16∧16≤16∧(4*(a % 4)) < 16)∧
    b= .inl ((a+1),(bh c ((a / 4)*16+(4*(a % 4))) (min 4 (16 - (4*(a % 4)))) (lit (dl 4 (fun q=>d (a*4+q))))))
  ) else (
    b= .inr c
  )
def pn (c d f g:K8) (e:List af) (r:K8):Prop:=
 ∃a:K8,Iter (pB d e) (1#8,0,(fun _=>0#8)) a∧
 ∃b:K8,Iter (o9 a) (0,c) b∧
 r=b
def kl (d:List af) (r:Nat ⊕ (K8×K8×K8×K8×Nat)):Prop:=
 if d.length≠32 then (
  r=(.inl 40)
 ) else (
  ∃a b c:K8,pT (a,b,c)∧
  ∃e:K8,pn (fun _=>0#8) a b c d e∧
  r=(.inr (e,a,b,c,0))
 )
def oM (c:K8) (d:Int) (s:(Nat×K8)) (b:(Nat×K8) ⊕ K8):Prop:=
 match s with
 | (t26,a)=>
  if t26 < 16 then (
    b= .inl ((t26+1),(an a t26 ((a t26) ^^^ ((fun q=>c ((d.toNat*16)+q)) t26))))
  ) else (
    b= .inr a
  )
def nA (c d e f s7:K8) (a:Int) (r:K8):Prop:=
 (0≤a∧a < 15)∧
 ∃b:K8,Iter (oM c a) (0,s7) b∧
 r=b
def nU (c:K8) (s:(Nat×K8)) (d:(Nat×K8) ⊕ K8):Prop:=
 match s with
 | (a,b)=>
  if a < 16 then (
    ((a+1) < 16)∧
    ((a+2) < 16)∧
    ((a+3) < 16)∧
    ((a+1) < 16)∧
    ((a+2) < 16)∧
    ((a+3) < 16)∧
    d= .inl ((a+4),(an (an (an (an b a (((b a) ^^^ ((((b a) ^^^ (b (a+1))) ^^^ (b (a+2))) ^^^ (b (a+3)))) ^^^ (c (((b a) ^^^ (b (a+1))).toNat)))) (a+1) (((b (a+1)) ^^^ ((((b a) ^^^ (b (a+1))) ^^^ (b (a+2))) ^^^ (b (a+3)))) ^^^ (c (((b (a+1)) ^^^ (b (a+2))).toNat)))) (a+2) (((b (a+2)) ^^^ ((((b a) ^^^ (b (a+1))) ^^^ (b (a+2))) ^^^ (b (a+3)))) ^^^ (c (((b (a+2)) ^^^ (b (a+3))).toNat)))) (a+3) (((b (a+3)) ^^^ ((((b a) ^^^ (b (a+1))) ^^^ (b (a+2))) ^^^ (b (a+3)))) ^^^ (c (((b (a+3)) ^^^ (b a)).toNat)))))
  ) else (
    d= .inr b
  )
def qm (c d e b s7 r:K8):Prop:=
 ∃a:K8,Iter (nU b) (0,s7) a∧
 r=a
def mw (c d:K8) (s:(Nat×K8)) (a:(Nat×K8) ⊕ K8):Prop:=
 match s with
 | (t162,b)=>
  if t162 < 16 then (
    a= .inl ((t162+1),(an b t162 (c ((d ((t162+(4*(t162 % 4))) % 16)).toNat))))
  ) else (
    a= .inr b
  )
def oG (e b f g:K8) (s:(Nat×K8)) (h:(Nat×K8) ⊕ K8):Prop:=
 match s with
 | (a,i)=>
  if a≤14 then (
    ∃c:K8,Iter (mw b i) (0,(fun _=>0#8)) c∧
    ∃d:K8,(
     if a < 14 then (
       ∃j:K8,qm e b f g c j∧
       d=j
     ) else (
       d=c
     )
    )∧
    ∃k:K8,nA e b f g d ((a:Nat):Int) k∧
    h= .inl ((a+1),k)
  ) else (
    h= .inr i
  )
def qg (a b c d g r:K8):Prop:=
 ∃e:K8,nA a b c d g 0 e∧
 ∃f:K8,Iter (oG a b c d) (1,e) f∧
 r=f
def n4 (s:((BitVec 64)×(BitVec 64)×Int×K8)) (d:((BitVec 64)×(BitVec 64)×Int×K8) ⊕ K8):Prop:=
 match s with
 | (c,e,a,b)=>
  if 0≤a then (
    (0≤a∧a < 16)∧
    (0≤a∧a < 16)∧
    (-9223372036854775808≤(a - 1)∧(a - 1)≤9223372036854775807)∧
    d= .inl ((c >>> 8),(((((b a.toNat).setWidth 64)+(c &&& (255#64)))+e) >>> 8),(a - 1),(an b a.toNat (((((b a.toNat).setWidth 64)+(c &&& (255#64)))+e).setWidth 8)))
  ) else (
    d= .inr b
  )
def pA (b:K8) (c:BitVec 64) (r:K8):Prop:=
 ∃a:K8,Iter (n4) (c,0#64,15,b) a∧
 r=a
def qj (b:List af) (a:Nat) (e:K8) (s:((List af)×Nat)) (d:((List af)×Nat) ⊕ (List af)):Prop:=
 match s with
 | (c,t188)=>
  if ((t188:Nat):Int) < (min 16 ((((([]:List af) ++b).length:Nat):Int) - ((a:Nat):Int))) then (
    ((a+t188) < 9223372036854775808)∧
    ((a+t188) < (([]:List af) ++b).length)∧
    ((a+t188) < (([]:List af) ++b).length)∧
    d= .inl ((c.set (a+t188) ((lit c (a+t188)) ^^^ (e t188))),(t188+1))
  ) else (
    d= .inr c
  )
def pG (i j k l:K8) (b:List af) (s:((List af)×Nat×K8)) (c:((List af)×Nat×K8) ⊕ (List af)):Prop:=
 match s with
 | (d,a,e)=>
  if a < (([]:List af) ++b).length then (
    ∃f:K8,qg i j k l e f∧
    (-9223372036854775808≤((((([]:List af) ++b).length:Nat):Int) - ((a:Nat):Int))∧((((([]:List af) ++b).length:Nat):Int) - ((a:Nat):Int))≤9223372036854775807)∧
    ∃g:List af,Iter (qj b a f) (d,0) g∧
    ∃h:K8,pA e (1#64) h∧
    ((a+16) < 9223372036854775808)∧
    c= .inl (g,(a+16),h)
  ) else (
    c= .inr d
  )
def l4 (c d e f g:K8) (a:List af) (r:(List af)):Prop:=
 (0+a.length≤140737488355328)∧
 ∃b:List af,Iter (pG c d e f a) ((([]:List af) ++a),0,g) b∧
 r=b
end Go.Proofs.YtjclppnbbpnfnaaGreatDoor
