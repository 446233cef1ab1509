/-
 RELATIONS of the package's functions, printed by this session's own program (auto.py).
-/
import Derived.Test.YtjclppnbbpnfnaaGreatDoorEd
import Derived.Test.YtjclppnbbpnfnaaGreatDoorFldT
import Derived.Test.YtjclppnbbpnfnaaGreatDoorShaM
import Derived.Test.YtjclppnbbpnfnaaGreatDoorRBits
namespace Go.Proofs.YtjclppnbbpnfnaaGreatDoor
set_option linter.unusedSimpArgs false
set_option linter.unusedVariables false
set_option linter.unusedSectionVars false
open Go Go.LW
def o0 (e:K8) (b:Int) (s:((BitVec 64)×Int)) (c:((BitVec 64)×Int) ⊕ (BitVec 64)):Prop:=
 match s with
 | (d,a)=>
  if 0≤a then (
    (-9223372036854775808≤(b+a)∧(b+a)≤9223372036854775807)∧
    (0≤(b+a)∧(b+a) < 32)∧
    (-9223372036854775808≤(a - 1)∧(a - 1)≤9223372036854775807)∧
    c= .inl (((d <<< 8) ||| ((e ((b+a).toNat)).setWidth 64)),(a - 1))
  ) else (
    c= .inr d
  )
def iT (b:K8) (c:Int) (r:(BitVec 64)):Prop:=
 ∃a:BitVec 64,Iter (o0 b c) (0#64,7) a∧
 r=a
def oA (a:K8) (r:(Nat→BitVec 64)):Prop:=
 ∃b:BitVec 64,iT a 0 b∧
 ∃c:BitVec 64,iT a 6 c∧
 ∃d:BitVec 64,iT a 12 d∧
 ∃e:BitVec 64,iT a 19 e∧
 ∃f:BitVec 64,iT a 24 f∧
 r=(lit [(b &&& (2251799813685247#64)),((c >>> 3) &&& (2251799813685247#64)),((d >>> 6) &&& (2251799813685247#64)),((e >>> 1) &&& (2251799813685247#64)),((f >>> 12) &&& (2251799813685247#64))])
def k7 (a:U4) (r:(Nat→BitVec 64)):Prop:=
 r=(an (fun _=>0#64) 0 (a.setWidth 64))
def jg (c:Int) (a b:Nat→BitVec 64) (r:((Nat→BitVec 64)×(Nat→BitVec 64))):Prop:=
 if (c % 2)=1 then (
  r=(b,a)
 ) else (
  r=(a,b)
 )
def pH (s:((BitVec 64)×Nat×(Nat→BitVec 64))) (c:((BitVec 64)×Nat×(Nat→BitVec 64)) ⊕ ((BitVec 64)×(Nat→BitVec 64))):Prop:=
 match s with
 | (b,t29,a)=>
  if t29 < 5 then (
    c= .inl ((((an a t29 ((a t29)+b)) t29) >>> 51),(t29+1),(an (an a t29 ((a t29)+b)) t29 (((an a t29 ((a t29)+b)) t29) &&& (2251799813685247#64))))
  ) else (
    c= .inr (b,a)
  )
def iC (b:Nat→BitVec 64) (r:(Nat→BitVec 64)):Prop:=
 ∃a:BitVec 64,∃m32:Nat→BitVec 64,Iter (pH) (0#64,0,b) (a,m32)∧
 r=(an m32 0 ((m32 0)+((19#64)*a)))
def mH (c:Nat→BitVec 64) (s:(Nat×(Nat→BitVec 64))) (b:(Nat×(Nat→BitVec 64)) ⊕ (Nat→BitVec 64)):Prop:=
 match s with
 | (t24,a)=>
  if t24 < 5 then (
    b= .inl ((t24+1),(an a t24 ((a t24)+(c t24))))
  ) else (
    b= .inr a
  )
def jV (c d:Nat→BitVec 64) (r:(Nat→BitVec 64)):Prop:=
 ∃a:Nat→BitVec 64,Iter (mH d) (0,c) a∧
 ∃b:Nat→BitVec 64,iC a b∧
 r=b
def nn (c:Nat→BitVec 64) (s:(Nat×(Nat→BitVec 64))) (b:(Nat×(Nat→BitVec 64)) ⊕ (Nat→BitVec 64)):Prop:=
 match s with
 | (t24,a)=>
  if t24 < 5 then (
    b= .inl ((t24+1),(an a t24 ((a t24)+((dn t24) - (c t24)))))
  ) else (
    b= .inr a
  )
def jX (c d:Nat→BitVec 64) (r:(Nat→BitVec 64)):Prop:=
 ∃a:Nat→BitVec 64,Iter (nn d) (0,c) a∧
 ∃b:Nat→BitVec 64,iC a b∧
 r=b
def n9 (d b a3 e:BitVec 64) (r:((BitVec 64)×(BitVec 64))):Prop:=
 ∃c a:BitVec 64,o6 a3 e (c,a)∧
 ((BitVec.ofNat 64 ((b.toNat+a.toNat+(0#64).toNat) / 2 ^ 64)).toNat≤1)∧
 r=((d+c+(BitVec.ofNat 64 ((b.toNat+a.toNat+(0#64).toNat) / 2 ^ 64))),(b+a+(0#64)))
def o4 (g c:Nat→BitVec 64) (t153:Nat) (s:(Nat×(Nat→BitVec 64))) (d:(Nat×(Nat→BitVec 64)) ⊕ (Nat→BitVec 64)):Prop:=
 match s with
 | (t205,a)=>
  if t205 < 5 then (
    ∃b:BitVec 64,(
     if 5≤(t153+t205) then (
       b=((c t205)*(19#64))
     ) else (
       b=(c t205)
     )
    )∧
    ∃e f:BitVec 64,n9 (a ((((t153+t205) % 5)*2)+0)) (a ((((t153+t205) % 5)*2)+1)) (g t153) b (e,f)∧
    d= .inl ((t205+1),(bh a (((t153+t205) % 5)*2) 2 (lit [e,f])))
  ) else (
    d= .inr a
  )
def mV (d e:Nat→BitVec 64) (s:(Nat×(Nat→BitVec 64))) (a:(Nat×(Nat→BitVec 64)) ⊕ (Nat→BitVec 64)):Prop:=
 match s with
 | (t153,b)=>
  if t153 < 5 then (
    ∃c:Nat→BitVec 64,Iter (o4 d e t153) (0,b) c∧
    a= .inl ((t153+1),c)
  ) else (
    a= .inr b
  )
def m_ (a:Nat→BitVec 64) (s:((BitVec 64)×Nat×(Nat→BitVec 64))) (c:((BitVec 64)×Nat×(Nat→BitVec 64)) ⊕ ((BitVec 64)×(Nat→BitVec 64))):Prop:=
 match s with
 | (b,t263,d)=>
  if t263 < 5 then (
    c= .inl (((((a (t263*2+0))+(BitVec.ofNat 64 (((a (t263*2+1)).toNat+b.toNat+(0#64).toNat) / 2 ^ 64))) <<< 13) ||| (((a (t263*2+1))+b+(0#64)) >>> 51)),(t263+1),(an d t263 (((a (t263*2+1))+b+(0#64)) &&& (2251799813685247#64))))
  ) else (
    c= .inr (b,d)
  )
def fZ (e f:Nat→BitVec 64) (r:(Nat→BitVec 64)):Prop:=
 ∃b:Nat→BitVec 64,Iter (mV e f) (0,(fun _=>0#64)) b∧
 ∃c:BitVec 64,∃a:Nat→BitVec 64,Iter (m_ b) (0#64,0,(fun _=>0#64)) (c,a)∧
 ∃d:Nat→BitVec 64,iC (an a 0 ((a 0)+((19#64)*c))) d∧
 r=d
def je (a:Nat→BitVec 64) (r:(Nat→BitVec 64)):Prop:=
 ∃b:Nat→BitVec 64,fZ a a b∧
 r=b
def nV (s:(Nat×K8)) (a:(Nat×K8) ⊕ K8):Prop:=
 match s with
 | (t22,m23)=>
  if t22 < 32 then (
    a= .inl ((t22+1),(an m23 t22 (255#8)))
  ) else (
    a= .inr m23
  )
def ow (a b:BitVec 8) (r:K8):Prop:=
 ∃m24:K8,Iter (nV) (0,(fun _=>0#8)) m24∧
 r=(an (an m24 0 a) 31 b)
def lQ (f:Nat→BitVec 64) (g:K8) (s:(Int×(Nat→BitVec 64))) (b:(Int×(Nat→BitVec 64)) ⊕ (Nat→BitVec 64)):Prop:=
 match s with
 | (a,d)=>
  if 0≤a then (
    ∃c:Nat→BitVec 64,je d c∧
    (-9223372036854775808≤(a.tdiv 8)∧(a.tdiv 8)≤9223372036854775807)∧
    (0≤(a.tdiv 8)∧(a.tdiv 8) < 32)∧
    (0≤(a.tmod 8))∧
    if (((g ((a.tdiv 8).toNat)) >>> ((a.tmod 8).toNat)) &&& (1#8))=1#8 then (
      ∃e:Nat→BitVec 64,fZ c f e∧
      (-9223372036854775808≤(a - 1)∧(a - 1)≤9223372036854775807)∧
      b= .inl ((a - 1),e)
    ) else (
      (-9223372036854775808≤(a - 1)∧(a - 1)≤9223372036854775807)∧
      b= .inl ((a - 1),c)
    )
  ) else (
    b= .inr d
  )
def nr (c:Nat→BitVec 64) (d:K8) (r:(Nat→BitVec 64)):Prop:=
 ∃a:Nat→BitVec 64,k7 (1#32) a∧
 ∃b:Nat→BitVec 64,Iter (lQ c d) (255,a) b∧
 r=b
def qf (c:Nat→BitVec 64) (r:(Nat→BitVec 64)):Prop:=
 ∃a:K8,ow (235#8) (127#8) a∧
 ∃b:Nat→BitVec 64,nr c a b∧
 r=b
def pq (d:Nat→BitVec 64) (s:((BitVec 64)×Nat)) (b:((BitVec 64)×Nat) ⊕ (BitVec 64)):Prop:=
 match s with
 | (c,a)=>
  if a < 5 then (
    b= .inl ((((d a)+c) >>> 51),(a+1))
  ) else (
    b= .inr c
  )
def lL (s:(Nat×(Nat→BitVec 64))) (b:(Nat×(Nat→BitVec 64)) ⊕ (Nat→BitVec 64)):Prop:=
 match s with
 | (t60,a)=>
  if t60 < 4 then (
    b= .inl ((t60+1),(an (an a (t60+1) ((a (t60+1))+((a t60) >>> 51))) t60 (((an a (t60+1) ((a (t60+1))+((a t60) >>> 51))) t60) &&& (2251799813685247#64))))
  ) else (
    b= .inr a
  )
def o7 (b:Nat→BitVec 64) (s:(Nat×K8)) (c:(Nat×K8) ⊕ K8):Prop:=
 match s with
 | (t96,a)=>
  if t96 < 255 then (
    c= .inl ((t96+1),(an a (t96 / 8) ((a (t96 / 8)) ||| ((((((an b 4 ((b 4) &&& (2251799813685247#64))) (t96 / 51)) >>> (t96 % 51)) &&& (1#64)).setWidth 8) <<< (t96 % 8)))))
  ) else (
    c= .inr a
  )
def oC (f:Nat→BitVec 64) (r:K8):Prop:=
 ∃b:Nat→BitVec 64,iC f b∧
 ∃a:Nat→BitVec 64,iC b a∧
 ∃c:BitVec 64,Iter (pq a) ((((a 0)+(19#64)) >>> 51),1) c∧
 ∃d:Nat→BitVec 64,Iter (lL) (0,(an a 0 ((a 0)+((19#64)*c)))) d∧
 ∃e:K8,Iter (o7 d) (0,(fun _=>0#8)) e∧
 r=e
end Go.Proofs.YtjclppnbbpnfnaaGreatDoor
