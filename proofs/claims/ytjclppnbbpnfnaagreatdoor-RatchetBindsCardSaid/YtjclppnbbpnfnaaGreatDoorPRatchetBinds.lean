/-
  PLAIN (own work): the law RatchetBinds.
-/
import Derived.Test.YtjclppnbbpnfnaaGreatDoorPm
import Derived.Test.YtjclppnbbpnfnaaGreatDoorRRatchetBinds
namespace Go.Proofs.YtjclppnbbpnfnaaGreatDoor
set_option linter.unusedSimpArgs false
set_option linter.unusedVariables false
set_option linter.unusedSectionVars false
open Go Go.LW
set_option maxRecDepth 10000

section binds
variable (ay aN:Ky)
/-- the message's key -/
noncomputable def kB:Ky:=ep (eB (gD ay))
noncomputable def dN:Hd:=h_ ay aN (0#32+1#32)
noncomputable def eM (text:List af):List af:=e4 (kB ay) (eG dW (dN ay aN) (eX 1)) (fB text)
theorem Ff (text:List af):(eM ay aN text).length=(fB text).length+32:=qn _ _ _
theorem vM (text:List af):fc (kB ay) (eG dW (dN ay aN) (eX 1)) (eM ay aN text)=(fB text,0):=uJ
theorem Db (text:List af):tg (kB ay) dW (dN ay aN) (eM ay aN text) (eX 1)=true:=by
  have h1:=vM ay aN text
  rw [w4] at h1
  by_cases h:tg (kB ay) dW (dN ay aN) (eM ay aN text) (eX 1)=true
  · exact h
  · rw [if_neg h] at h1;exact absurd (show (50:Nat)=0 from congrArg Prod.snd h1) (by decide)
/-- B ahead of the second message -/
noncomputable def B2:RS:=B1 ay aN (ma ay) (eB (gD ay)) (0#32+1#32)
theorem k1 (h:Hd) {data:List af} (a:data.length≤64):iU (B2 ay aN) [] 64 256 h data:=⟨by decide,by decide,a,.nil,Nat.zero_le _⟩
theorem qS (prev:Wd):qy (B2 ay aN) [] 64 256 1000#32 { dN ay aN with prev:=prev }:=
  ⟨rfl,Nat.le_refl _,by show 1 < 1000;omega,by show 0 < 1000;omega,kH _ _,by show (1:Int) - 1≤64;omega,.inl rfl,fun x hx=>by cases hx⟩
theorem zQ (prev:Wd) {body data:List af} (a:data.length≤64) (hb:32≤body.length∧body.length≤544):
    if tg (kB ay) dW { dN ay aN with prev:=prev } body data=true then∃s' b,k5 (B2 ay aN) [] 64 256 1000#32 { dN ay aN with prev:=prev } body data (ma ay) s' b (fR (kB ay) (aT body 0 (body.length - 32))) 0
    else k5 (B2 ay aN) [] 64 256 1000#32 { dN ay aN with prev:=prev } body data (ma ay) ya [] [] 50:=by
  have ho:fc (ep (dG (B2 ay aN).rk (({ dN ay aN with prev:=prev }:Hd).n.toNat - (B2 ay aN).cf.toNat))) (eG (B2 ay aN).bind { dN ay aN with prev:=prev } data) body=_:=w4 (key:=kB ay) (bind:=dW) (h:= { dN ay aN with prev:=prev }) (more:=data)
  by_cases h:tg (kB ay) dW { dN ay aN with prev:=prev } body data=true
  · rw [if_pos h] at ho
    exact b6 h ⟨_,_,sT (k1 ay aN _ a) (kH _ _) (u1 (k1 ay aN _ a) (qS ay aN prev) hb ho)⟩
  · rw [if_neg h] at ho
    exact br h (FD (k1 ay aN _ a) (kH _ _) (by decide) (Ad (k1 ay aN _ a) (qS ay aN prev) (by decide) (q4 hb.1 hb.2 (by rw [wF];omega) ho)))
end binds

theorem DM (ay aN:Ky) (text more:List af) (e bit:Int) (hw: -9223372036854775808≤e∧e≤9223372036854775807) (m: -9223372036854775808≤bit∧bit≤9223372036854775807):
    pZ ay aN text more e bit true:=by
  have hc:=ug text
  have w:=Ff ay aN text
  have q:fB (dl 5 (lit ([102#8,105#8,114#8,115#8,116#8]:List af)))=dl 5 (lit ([102#8,105#8,114#8,115#8,116#8]:List af)):=by unfold fB;rw [if_neg (by rw [ea];decide)]
  refine .inr ⟨_,_,_,_,_,_,_,_,_,_,_,_,_,_,_,_,_,_,_,_,_,_,_,_,_,_,_,_,_,_,_,_,_,_,_,_,_,_,_,AR ay aN,b6 rfl ?_⟩
  refine ⟨_,_,_,_,_,_,_,_,_,_,_,_,_,_,_,_,_,_,_,_,_,_,_,_,_,_,_,_,_,_,_,_,_,_,_,_,_,_,xh (by decide) (by decide) (by decide) (by decide),b6 rfl ?_⟩
  refine ⟨_,_,kx _,?_⟩
  refine ⟨_,_,_,_,_,_,_,_,_,_,_,_,_,_,_,_,_,_,_,_,_,_,_,_,_,_,_,_,_,_,_,_,_,_,_,_,_,_,xh (by decide) (by decide) (by decide) (by simp),b6 rfl ?_⟩
  refine ⟨_,_,_,sQ ay 2 (by decide),b6 rfl ?_⟩
  rw [q]
  have r:=C2 ay aN (n:=0) (by decide) (draw:=ma ay) (body:=e4 (ep (gD ay)) (eG dW (h_ ay aN 0#32) (eX 0)) (dl 5 (lit ([102#8,105#8,114#8,115#8,116#8]:List af)))) (data:=eX 0) (text:=dl 5 (lit ([102#8,105#8,114#8,115#8,116#8]:List af)))
    (by exact (by decide:2≤64)) (by rw [qn,ea];decide) uJ
  refine ⟨_,_,_,_,_,_,_,_,_,_,_,_,_,_,_,_,_,_,_,_,_,vi (a:=A0 ay aN (eB (eB (gD ay))) (0#32+1#32+1#32) (0#32+1#32+1#32)) (k:=0) (s:=B0 ay aN) (to:=1) (by simp) rfl r,b6 rfl ?_⟩
  refine ⟨by simp,_,_,vS (key:=kB ay) (bind:=dW) (h:=dN ay aN) (body:=eM ay aN text) (more:=eX 1) (by omega) (by exact (by decide:2≤64)),?_⟩
  refine b6 (Db ay aN text) (b6 rfl ⟨?_,?_⟩)
  · show 0+(eM ay aN text).length≤_;omega
  -- what is changed
  have t:∃body c prev,(32≤body.length∧body.length≤544)∧c.length≤64∧(
      ∃i:Int,iq e 3 i∧
      if i=0 then (
        ((8*((([]:List af) ++(eM ay aN text)).length)) < 9223372036854775808)∧
        ∃b:Int,iq bit (((8*((([]:List af) ++(eM ay aN text)).length)):Nat):Int) b∧
        (-9223372036854775808≤(b.tdiv 8)∧(b.tdiv 8)≤9223372036854775807)∧
        (0≤(b.tdiv 8)∧(b.tdiv 8) < (([]:List af) ++(eM ay aN text)).length)∧
        (0≤(b.tmod 8))∧
        (0≤(b.tdiv 8)∧(b.tdiv 8) < (([]:List af) ++(eM ay aN text)).length)∧
        body=((([]:List af) ++(eM ay aN text)).set ((b.tdiv 8).toNat) ((lit (([]:List af) ++(eM ay aN text)) ((b.tdiv 8).toNat)) ^^^ ((1#8) <<< ((b.tmod 8).toNat))))∧c=eX 1∧prev=(dN ay aN).prev
      ) else (
        if i=1 then (
          ∃f:Int,iq bit 1000 f∧
          (-9223372036854775808≤(1+f)∧(1+f)≤9223372036854775807)∧
          body=(([]:List af) ++(eM ay aN text))∧c=eX 1∧prev=(BitVec.ofInt 32 (1+f))
        ) else (
          (0≤(min more.length 63)∧(min more.length 63)≤more.length)∧
          (([9#8]:List af).length+(aT more 0 (min more.length 63)).length≤140737488355328)∧
          body=(([]:List af) ++(eM ay aN text))∧c=(([9#8]:List af) ++(aT more 0 (min more.length 63)))∧prev=(dN ay aN).prev
        )
      )):=by
    have z:(eX 1).length=2:=rfl
    obtain ⟨x,A,B,hx⟩:=sU hw (n:=3) (by decide)
    by_cases j:x=0
    · obtain ⟨y,l,o,hy⟩:=sU m (n:=(((8*((([]:List af) ++(eM ay aN text)).length)):Nat):Int)) (by rw [List.nil_append];omega)
      rw [List.nil_append] at o
      have hq:y.tdiv 8=y / 8:=Int.tdiv_eq_ediv_of_nonneg l
      have hm:y.tmod 8=y % 8:=Int.tmod_eq_emod_of_nonneg l
      refine ⟨_,_,_,?_,?_,x,hx,b6 j ⟨by rw [List.nil_append];omega,y,hy,by omega,by rw [List.nil_append];omega,by omega,by rw [List.nil_append];omega,rfl,rfl,rfl⟩⟩
      · rw [List.length_set,List.nil_append];omega
      · omega
    · by_cases h1:x=1
      · obtain ⟨y,l,o,hy⟩:=sU m (n:=1000) (by decide)
        refine ⟨_,_,_,?_,?_,x,hx,br j (b6 h1 ⟨y,hy,by omega,rfl,rfl,rfl⟩)⟩
        · rw [List.nil_append];omega
        · omega
      · have hs:(aT more 0 (min more.length 63)).length=min more.length 63:=by rw [fv (by omega)];omega
        refine ⟨_,_,_,?_,?_,x,hx,br j (br h1 ⟨by omega,by rw [hs];simp;omega,rfl,rfl,rfl⟩)⟩
        · rw [List.nil_append];omega
        · rw [List.length_append,hs];simp;omega
  obtain ⟨body,c,prev,hb,p,u⟩:=t
  refine ⟨body,c,prev,u,_,_,vS (key:=kB ay) (bind:=dW) (h:= { dN ay aN with prev:=prev }) (body:=body) (more:=c) (by omega) p,b6 rfl ?_⟩
  have d:=zQ ay aN prev p hb
  by_cases g:tg (kB ay) dW { dN ay aN with prev:=prev } body c=true
  · rw [if_pos g] at d
    obtain ⟨s',C,d⟩:=d
    exact ⟨_,_,_,_,_,_,_,_,_,_,_,_,_,_,_,_,_,_,_,_,d,b6 g rfl⟩
  · rw [if_neg g] at d
    have v:=sT (k1 ay aN (dN ay aN) (data:=eX 1) (by exact (by decide:2≤64))) (kH _ _) (u1 (draw:=ma ay) (k1 ay aN _ (by exact (by decide:2≤64))) (qS ay aN 0#32) (body:=eM ay aN text) (by omega) (vM ay aN text))
    exact ⟨_,_,_,_,_,_,_,_,_,_,_,_,_,_,_,_,_,_,_,_,d,br g (b6 rfl ⟨_,_,_,_,_,_,_,_,_,_,_,_,_,_,_,_,_,_,_,_,_,
      vi (a:=A0 ay aN (eB (eB (gD ay))) (0#32+1#32+1#32) (0#32+1#32+1#32)) (k:=1) (s:=B2 ay aN) (to:=1) (by simp) rfl v,rfl⟩)⟩
end Go.Proofs.YtjclppnbbpnfnaaGreatDoor
