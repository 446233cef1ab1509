/-
 RELATIONS of the package's functions, printed by this session's own program (auto.py).
-/
import Derived.Test.YtjclppnbbpnfnaaGreatDoorEd
import Derived.Test.YtjclppnbbpnfnaaGreatDoorFldT
import Derived.Test.YtjclppnbbpnfnaaGreatDoorShaM
import Derived.Test.YtjclppnbbpnfnaaGreatDoorRAes
import Derived.Test.YtjclppnbbpnfnaaGreatDoorRKdf
import Derived.Test.YtjclppnbbpnfnaaGreatDoorRWire
namespace Go.Proofs.YtjclppnbbpnfnaaGreatDoor
set_option linter.unusedSimpArgs false
set_option linter.unusedVariables false
set_option linter.unusedSectionVars false
open Go Go.LW
def h4 (k:K8) (r:((List af)×K8×Nat) ⊕ ((List af)×K8×Nat) ⊕ (K8×K8×K8×K8×(List af)×K8×Nat)):Prop:=
 ∃b:Nat,∃a:List af,(
  ∃e:List af,∃f:Nat,jj (List.replicate 32 0#8) (dl 32 k) (dl 10 (lit ([108#8,101#8,116#8,104#8,101#8,32#8,115#8,101#8,97#8,108#8]:List af))) 80 (e,f)∧
  b=f∧a=e
 )∧
 if b≠0 then (
  r=(.inl (([]:List af),(fun _=>0#8),b))
 ) else (
  (0≤32∧32≤a.length)∧
  ((∃c:Nat,kl (aT a 0 32) (.inl c)∧
    if c≠0 then (
      r=(.inl (([]:List af),(fun _=>0#8),c))
    ) else (
      (32≤64∧64≤a.length)∧
      (64≤a.length∧a.length≤a.length)∧
      (16≤(a.length - 64))∧
      r=(.inr (.inl ((aT a 32 64),(lit (aT a 64 a.length)),0)))
    )
  )∨(∃g h i j:K8,∃d:Nat,kl (aT a 0 32) (.inr (g,h,i,j,d))∧
   if d≠0 then (
     r=(.inl (([]:List af),(fun _=>0#8),d))
   ) else (
     (32≤64∧64≤a.length)∧
     (64≤a.length∧a.length≤a.length)∧
     (16≤(a.length - 64))∧
     r=(.inr (.inr (g,h,i,j,(aT a 32 64),(lit (aT a 64 a.length)),0)))
   )
  ))
 )
def qc (c:List af) (s:((List af)×Nat)) (a:((List af)×Nat) ⊕ (List af)):Prop:=
 match s with
 | (b,t31)=>
  if t31 < (List.replicate 8 0#8).length then (
    ((8*t31) < 9223372036854775808)∧
    (-9223372036854775808≤(56 - (((8*t31):Nat):Int))∧(56 - (((8*t31):Nat):Int))≤9223372036854775807)∧
    (0≤(56 - (((8*t31):Nat):Int)))∧
    (t31 < (List.replicate 8 0#8).length)∧
    ((t31+1) < 9223372036854775808)∧
    a= .inl ((b.set t31 (((BitVec.ofNat 64 c.length) >>> ((56 - (((8*t31):Nat):Int)).toNat)).setWidth 8)),(t31+1))
  ) else (
    a= .inr b
  )
def jS (d a e:List af) (r:(List af)):Prop:=
 ∃b:List af,Iter (qc a) ((List.replicate 8 0#8),0) b∧
 ∃c:K8,dy d ([a,e,b]:List (List af)) c∧
 r=(dl 32 c)
def nu (a:K8) (f g:List af) (r:((List af)×Nat)):Prop:=
 if 512 < g.length then (
  r=(([]:List af),5)
 ) else (
  if 65535 < f.length then (
    r=(([]:List af),5)
  ) else (
    ((∃p:List af,∃q:K8,∃b:Nat,h4 a (.inl (p,q,b))∧
      if b≠0 then (
        r=(([]:List af),b)
      ) else (
        False
      )
    )∨(∃s:List af,∃t:K8,∃c:Nat,h4 a (.inr (.inl (s,t,c)))∧
     if c≠0 then (
       r=(([]:List af),c)
     ) else (
       False
     )
    )∨(∃h i j k:K8,∃l:List af,∃m:K8,∃d:Nat,h4 a (.inr (.inr (h,i,j,k,l,m,d)))∧
     if d≠0 then (
       r=(([]:List af),d)
     ) else (
       ∃e:List af,l4 h i j k m g e∧
       ∃n:List af,jS l f e n∧
       ∃o:List af,kC ([e,n]:List (List af)) o∧
       r=(o,0)
     )
    ))
  )
 )
def jb (c:K8) (b a:List af) (r:((List af)×Nat)):Prop:=
 (-9223372036854775808≤(((a.length:Nat):Int) - 32)∧(((a.length:Nat):Int) - 32)≤9223372036854775807)∧
 if (((a.length:Nat):Int) - 32) < 0 then (
  r=(([]:List af),10)
 ) else (
  if 512 < (((a.length:Nat):Int) - 32) then (
    r=(([]:List af),5)
  ) else (
    if 65535 < b.length then (
      r=(([]:List af),5)
    ) else (
      ((∃g:List af,∃w:K8,∃d:Nat,h4 c (.inl (g,w,d))∧
        if d≠0 then (
          r=(([]:List af),d)
        ) else (
          (0≤(((a.length:Nat):Int) - 32))∧
          ((((a.length:Nat):Int) - 32).toNat≤a.length∧a.length≤a.length)∧
          (0≤(((a.length:Nat):Int) - 32))∧
          (0≤(((a.length:Nat):Int) - 32).toNat∧(((a.length:Nat):Int) - 32).toNat≤a.length)∧
          ∃h:List af,jS g b (aT a 0 ((((a.length:Nat):Int) - 32).toNat)) h∧
          ∃i:Bool,jP (aT a ((((a.length:Nat):Int) - 32).toNat) a.length) h i∧
          if i=true then (
            (0≤(((a.length:Nat):Int) - 32))∧
            (0≤(((a.length:Nat):Int) - 32).toNat∧(((a.length:Nat):Int) - 32).toNat≤a.length)∧
            False
          ) else (
            r=(([]:List af),50)
          )
        )
      )∨(∃j:List af,∃x:K8,∃e:Nat,h4 c (.inr (.inl (j,x,e)))∧
       if e≠0 then (
         r=(([]:List af),e)
       ) else (
         (0≤(((a.length:Nat):Int) - 32))∧
         ((((a.length:Nat):Int) - 32).toNat≤a.length∧a.length≤a.length)∧
         (0≤(((a.length:Nat):Int) - 32))∧
         (0≤(((a.length:Nat):Int) - 32).toNat∧(((a.length:Nat):Int) - 32).toNat≤a.length)∧
         ∃k:List af,jS j b (aT a 0 ((((a.length:Nat):Int) - 32).toNat)) k∧
         ∃l:Bool,jP (aT a ((((a.length:Nat):Int) - 32).toNat) a.length) k l∧
         if l=true then (
           (0≤(((a.length:Nat):Int) - 32))∧
           (0≤(((a.length:Nat):Int) - 32).toNat∧(((a.length:Nat):Int) - 32).toNat≤a.length)∧
           False
         ) else (
           r=(([]:List af),50)
         )
       )
      )∨(∃m n o p:K8,∃q:List af,∃s:K8,∃f:Nat,h4 c (.inr (.inr (m,n,o,p,q,s,f)))∧
       if f≠0 then (
         r=(([]:List af),f)
       ) else (
         (0≤(((a.length:Nat):Int) - 32))∧
         ((((a.length:Nat):Int) - 32).toNat≤a.length∧a.length≤a.length)∧
         (0≤(((a.length:Nat):Int) - 32))∧
         (0≤(((a.length:Nat):Int) - 32).toNat∧(((a.length:Nat):Int) - 32).toNat≤a.length)∧
         ∃t:List af,jS q b (aT a 0 ((((a.length:Nat):Int) - 32).toNat)) t∧
         ∃u:Bool,jP (aT a ((((a.length:Nat):Int) - 32).toNat) a.length) t u∧
         if u=true then (
           (0≤(((a.length:Nat):Int) - 32))∧
           (0≤(((a.length:Nat):Int) - 32).toNat∧(((a.length:Nat):Int) - 32).toNat≤a.length)∧
           ∃v:List af,l4 m n o p s (aT a 0 ((((a.length:Nat):Int) - 32).toNat)) v∧
           r=(v,0)
         ) else (
           r=(([]:List af),50)
         )
       )
      ))
    )
  )
 )
end Go.Proofs.YtjclppnbbpnfnaaGreatDoor
