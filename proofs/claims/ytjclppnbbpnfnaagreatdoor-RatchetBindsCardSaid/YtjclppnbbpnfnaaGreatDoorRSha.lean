/-
 RELATIONS of the package's functions, printed by this session's own program (auto.py).
-/
import Derived.Test.YtjclppnbbpnfnaaGreatDoorEd
import Derived.Test.YtjclppnbbpnfnaaGreatDoorFldT
import Derived.Test.YtjclppnbbpnfnaaGreatDoorShaM
import Derived.Test.YtjclppnbbpnfnaaGreatDoorRBits
namespace Go.Proofs.YtjclppnbbpnfnaaGreatDoor
set_option linter.unusedSimpArgs false
set_option linter.unusedVariables false
set_option linter.unusedSectionVars false
open Go Go.LW
def oI (r:((Nat→U4)×K8×Nat)):Prop:=
 r=(cH,(fun _=>0#8),0)
def fM (a:Int) (c r:U4):Prop:=
 (-9223372036854775808≤ -a∧ -a≤9223372036854775807)∧
 ∃b:U4,tb c (-a) b∧
 r=b
def pr (a:K8) (s:(Nat×(Nat→U4))) (b:(Nat×(Nat→U4)) ⊕ (Nat→U4)):Prop:=
 match s with
 | (t26,c)=>
  if t26 < 16 then (
    b= .inl ((t26+1),(an c t26 ((((((a (4*t26)).setWidth 32) <<< 24) ||| (((a ((4*t26)+1)).setWidth 32) <<< 16)) ||| (((a ((4*t26)+2)).setWidth 32) <<< 8)) ||| ((a ((4*t26)+3)).setWidth 32))))
  ) else (
    b= .inr c
  )
def nF (s:(Nat×(Nat→U4))) (b:(Nat×(Nat→U4)) ⊕ (Nat→U4)):Prop:=
 match s with
 | (t87,a)=>
  if t87 < 64 then (
    (0≤(((t87:Nat):Int) - 15)∧(((t87:Nat):Int) - 15) < 64)∧
    (0≤(((t87:Nat):Int) - 2)∧(((t87:Nat):Int) - 2) < 64)∧
    (0≤(((t87:Nat):Int) - 7)∧(((t87:Nat):Int) - 7) < 64)∧
    (0≤(((t87:Nat):Int) - 16)∧(((t87:Nat):Int) - 16) < 64)∧
    ∃c:U4,fM 17 (a ((((t87:Nat):Int) - 2).toNat)) c∧
    ∃d:U4,fM 19 (a ((((t87:Nat):Int) - 2).toNat)) d∧
    ∃e:U4,fM 7 (a ((((t87:Nat):Int) - 15).toNat)) e∧
    ∃f:U4,fM 18 (a ((((t87:Nat):Int) - 15).toNat)) f∧
    b= .inl ((t87+1),(an a t87 (((((c ^^^ d) ^^^ ((a ((((t87:Nat):Int) - 2).toNat)) >>> 10))+(a ((((t87:Nat):Int) - 7).toNat)))+((e ^^^ f) ^^^ ((a ((((t87:Nat):Int) - 15).toNat)) >>> 3)))+(a ((((t87:Nat):Int) - 16).toNat)))))
  ) else (
    b= .inr a
  )
def pv (j:Nat→U4) (s:(U4×U4×U4×U4×U4×U4×U4×U4×Nat)) (k:(U4×U4×U4×U4×U4×U4×U4×U4×Nat) ⊕ (U4×U4×U4×U4×U4×U4×U4×U4)):Prop:=
 match s with
 | (b,c,d,l,a,f186,e,f,t189)=>
  if t189 < 64 then (
    ∃g:U4,fM 6 a g∧
    ∃h:U4,fM 11 a h∧
    ∃i:U4,fM 25 a i∧
    ∃m:U4,fM 2 b m∧
    ∃n:U4,fM 13 b n∧
    ∃o:U4,fM 22 b o∧
    k= .inl ((((((f+((g ^^^ h) ^^^ i))+((a &&& f186) ^^^ ((~~~a) &&& e)))+(bE t189))+(j t189))+(((m ^^^ n) ^^^ o)+(((b &&& c) ^^^ (b &&& d)) ^^^ (c &&& d)))),b,c,d,(l+((((f+((g ^^^ h) ^^^ i))+((a &&& f186) ^^^ ((~~~a) &&& e)))+(bE t189))+(j t189))),a,f186,e,(t189+1))
  ) else (
    k= .inr (b,c,d,l,a,f186,e,f)
  )
def oV (c d e f g f195 h i:U4) (s:(Nat×(Nat→U4))) (b:(Nat×(Nat→U4)) ⊕ (Nat→U4)):Prop:=
 match s with
 | (t243,a)=>
  if t243 < 8 then (
    b= .inl ((t243+1),(an a t243 ((a t243)+((lit [c,d,e,f,g,f195,h,i]) t243))))
  ) else (
    b= .inr a
  )
def pN (a:Nat→U4) (l:K8) (r:(Nat→U4)):Prop:=
 ∃b:Nat→U4,Iter (pr l) (0,(fun _=>0#32)) b∧
 ∃c:Nat→U4,Iter (nF) (16,b) c∧
 ∃d e f g h f195 i j:U4,Iter (pv c) ((a 0),(a 1),(a 2),(a 3),(a 4),(a 5),(a 6),(a 7),0) (d,e,f,g,h,f195,i,j)∧
 ∃k:Nat→U4,Iter (oV d e f g h f195 i j) (0,a) k∧
 r=k
def oR (s:((List af)×(Nat→U4)×K8×Int)) (d:((List af)×(Nat→U4)×K8×Int) ⊕ ((Nat→U4)×K8×Int)):Prop:=
 match s with
 | (b,e,c,a)=>
  if 0 < b.length then (
    (0≤(a.tmod 64))∧
    ((a.tmod 64).toNat≤64∧64≤64∧(a.tmod 64).toNat < 64)∧
    ((min b.length (64 - (a.tmod 64).toNat))≤b.length∧b.length≤b.length)∧
    (-9223372036854775808≤(a+(((min b.length (64 - (a.tmod 64).toNat)):Nat):Int))∧(a+(((min b.length (64 - (a.tmod 64).toNat)):Nat):Int))≤9223372036854775807)∧
    if ((a+(((min b.length (64 - (a.tmod 64).toNat)):Nat):Int)).tmod 64)=0 then (
      ∃f:Nat→U4,pN e (bh c ((a.tmod 64).toNat) (min b.length (64 - (a.tmod 64).toNat)) (lit b)) f∧
      d= .inl ((aT b (min b.length (64 - (a.tmod 64).toNat)) b.length),f,(bh c ((a.tmod 64).toNat) (min b.length (64 - (a.tmod 64).toNat)) (lit b)),(a+(((min b.length (64 - (a.tmod 64).toNat)):Nat):Int)))
    ) else (
      d= .inl ((aT b (min b.length (64 - (a.tmod 64).toNat)) b.length),e,(bh c ((a.tmod 64).toNat) (min b.length (64 - (a.tmod 64).toNat)) (lit b)),(a+(((min b.length (64 - (a.tmod 64).toNat)):Nat):Int)))
    )
  ) else (
    d= .inr (e,c,a)
  )
def im (d:Nat→U4) (e:K8) (f:Int) (g:List af) (r:((Nat→U4)×K8×Int)):Prop:=
 ∃a:Nat→U4,∃b:K8,∃c:Int,Iter (oR) (g,d,e,f) (a,b,c)∧
 r=(a,b,c)
def sX (a:Nat→U4) (b:K8) (c:Int) (r:((Nat→U4)×K8×Int)):Prop:=
 r=(a,b,c)
def nC (s:((Nat→U4)×K8×Int)) (b:((Nat→U4)×K8×Int) ⊕ ((Nat→U4)×K8×Int)):Prop:=
 match s with
 | (c,d,a)=>
  if (a.tmod 64)≠56 then (
    ∃e:Nat→U4,∃f:K8,∃g:Int,im c d a ([0#8]:List af) (e,f,g)∧
    b= .inl (e,f,g)
  ) else (
    b= .inr (c,d,a)
  )
def oP (h:Int) (s:(Nat×(Nat→U4)×K8×Int)) (a:(Nat×(Nat→U4)×K8×Int) ⊕ ((Nat→U4)×K8×Int)):Prop:=
 match s with
 | (t101,b,c,d)=>
  if t101 < 8 then (
    ∃e:Nat→U4,∃f:K8,∃g:Int,im b c d ([((((8#64)*(BitVec.ofInt 64 h)) >>> (56 - (8*t101))).setWidth 8)]:List af) (e,f,g)∧
    a= .inl ((t101+1),e,f,g)
  ) else (
    a= .inr (b,c,d)
  )
def ql (a:Nat→U4) (s:(Nat×K8)) (b:(Nat×K8) ⊕ K8):Prop:=
 match s with
 | (t147,c)=>
  if t147 < 8 then (
    b= .inl ((t147+1),(an (an (an (an c (4*t147) (((a t147) >>> 24).setWidth 8)) ((4*t147)+1) (((a t147) >>> 16).setWidth 8)) ((4*t147)+2) (((a t147) >>> 8).setWidth 8)) ((4*t147)+3) ((a t147).setWidth 8)))
  ) else (
    b= .inr c
  )
def na (m:Nat→U4) (n:K8) (a:Int) (r:K8):Prop:=
 ∃b:Nat→U4,∃c:K8,∃d:Int,sX m n a (b,c,d)∧
 ∃e:Nat→U4,∃f:K8,∃g:Int,im b c d ([128#8]:List af) (e,f,g)∧
 ∃h:Nat→U4,∃i:K8,∃j:Int,Iter (nC) (e,f,g) (h,i,j)∧
 ∃k:Nat→U4,∃o:K8,∃p:Int,Iter (oP a) (0,h,i,j) (k,o,p)∧
 ∃l:K8,Iter (ql k) (0,(fun _=>0#8)) l∧
 r=l
def oZ (a:List (List af)) (s:(Nat×(Nat→U4)×K8×Int)) (b:(Nat×(Nat→U4)×K8×Int) ⊕ ((Nat→U4)×K8×Int)):Prop:=
 match s with
 | (t42,c,d,e)=>
  if t42 < a.length then (
    (t42 < a.length)∧
    ∃f:Nat→U4,∃g:K8,∃h:Int,im c d e (a.getD t42 []) (f,g,h)∧
    ((t42+1) < 9223372036854775808)∧
    b= .inl ((t42+1),f,g,h)
  ) else (
    b= .inr (c,d,e)
  )
def lN (h:List (List af)) (r:K8):Prop:=
 ∃a:Nat→U4,∃b:K8,∃c:Nat,oI (a,b,c)∧
 ∃d:Nat→U4,∃e:K8,∃f:Int,Iter (oZ h) (0,a,b,((c:Nat):Int)) (d,e,f)∧
 ∃g:K8,na d e f g∧
 r=g
end Go.Proofs.YtjclppnbbpnfnaaGreatDoor
