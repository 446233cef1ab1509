/-
 WALKS of the package's functions, printed by this session's own program (auto.py).
-/
import Derived.Test.YtjclppnbbpnfnaaGreatDoorWF
import Derived.Test.YtjclppnbbpnfnaaGreatDoorProg
import Derived.Test.YtjclppnbbpnfnaaGreatDoorEd
import Derived.Test.YtjclppnbbpnfnaaGreatDoorRCmp
import Derived.Test.YtjclppnbbpnfnaaGreatDoorEls
namespace Go.Proofs.YtjclppnbbpnfnaaGreatDoor
set_option linter.unusedSimpArgs false
set_option linter.unusedVariables false
set_option linter.unusedSectionVars false
set_option maxRecDepth 8000
set_option maxHeartbeats 1000000
open Go Go.LW
theorem yH {B:Nat} {w0:aC} {w:World} {L:List Rg} {c:U4} {r:Bool} (g:pK c r) (h:St B w0 (L) w):
  Calls Tryz.prog 129 #[VU .u32 c] w fun e w'=>e= .returned (.bool r)∧St B w0 (L) w':=by
 refine W.enter 6 Tryz.func129 rr rr rr ?_
 unfold pK at g
 refine ad fun _ d=>ag 1 1 ?_
 refine a8 rr rr<|aa.fin d ?_;clear d
 refine ad fun _ f=>ag 4 15 ?_
 refine aj rr rr<|aj rr rr<|aR (a:=(c.toNat:Int)) (b:=(c.toNat:Int)) (p:=c≠c) rr rr rr rr eV<|a8 rr rr<|aa.fin f ?_;clear f
 refine W.ret (aB ?_)
 subst r
 refine ax.mk (.b2 rr .nil) ?_
 exact ⟨rr,h⟩
theorem x6 {B:Nat} {w0:aC} {w:World} {L:List Rg} {d f:U4} {r:Int} (c:lZ d f r) (M:St B w0 (L) w):
  Calls Tryz.prog 92 #[VU .u32 d,VU .u32 f] w fun e w'=>e= .returned (.int .i64 r)∧St B w0 (L) w':=by
 refine W.enter 20 Tryz.func92 rr rr rr ?_
 unfold lZ at c
 refine ad fun _ m=>ag 1 1 ?_
 refine ak rr rr<|aa.fin m ?_;clear m
 refine ad fun _ n=>ag 3 5 ?_
 refine aj rr rr ?_
 obtain ⟨N,O,c⟩:=c
 refine aw wX (yH O M) ?_
 rintro _ Q ⟨rfl,o⟩
 refine ⟨_,rr,.inl ⟨ae.keep (by exact ae.nil) o,?_⟩⟩
 refine a8 rr rr<|aa.fin n ?_;clear n
 refine ad fun _ q=>ag 3 5 ?_
 refine aj rr rr ?_
 obtain ⟨s,P,c⟩:=c
 refine aw wX (yH P o) ?_
 rintro _ R ⟨rfl,g⟩
 refine ⟨_,rr,.inl ⟨ae.keep (by exact ae.nil) g,?_⟩⟩
 refine a8 rr rr<|aa.fin q ?_;clear q
 refine ad fun _ t=>ad fun _ u=>?_
 refine ag 1 1 ?_
 refine a_ rr rr<|aa.fin u ?_;clear u
 by_cases h:N=true
 ·
  replace c:=aA c h
  refine aG (congrArg Value.bool h) ?_
  refine ad fun _ v=>ad fun _ x=>?_
  refine ag 1 1 ?_
  refine a_ rr rr<|aa.fin x ?_;clear x
  by_cases i:s=true
  ·
   replace c:=aA c i
   refine aG (congrArg Value.bool i) ?_
   refine ad fun _ y=>ag 1 1 ?_
   refine ak rr rr<|aa.fin y ?_;clear y
   refine W.ret (a' (a' (aB ?_)))
   subst r
   refine ax.mk (.bj rr .nil) ?_
   exact ⟨rr,g⟩
  ·
   replace c:=az c i
   refine aO (congrArg Value.bool (Bool.eq_false_iff.2 i)) ?_
   refine W.skip ?_
   refine v _ _ ?_;clear v
   refine ad fun _ z=>ag 1 1 ?_
   refine ak rr rr<|aa.fin z ?_;clear z
   refine W.ret (a' (aB ?_))
   subst r
   refine ax.mk (.bj rr .nil) ?_
   exact ⟨rr,g⟩
 ·
  replace c:=az c h
  refine aO (congrArg Value.bool (Bool.eq_false_iff.2 h)) ?_
  refine W.skip ?_
  refine t _ _ ?_;clear t
  refine ad fun _ A=>ad fun _ C=>?_
  refine ag 1 1 ?_
  refine a_ rr rr<|aa.fin C ?_;clear C
  by_cases j:s=true
  ·
   replace c:=aA c j
   refine aG (congrArg Value.bool j) ?_
   refine ad fun _ D=>ag 1 1 ?_
   refine ak rr rr<|aa.fin D ?_;clear D
   refine W.ret (a' (aB ?_))
   subst r
   refine ax.mk (.bj rr .nil) ?_
   exact ⟨rr,g⟩
  ·
   replace c:=az c j
   refine aO (congrArg Value.bool (Bool.eq_false_iff.2 j)) ?_
   refine W.skip ?_
   refine A _ _ ?_;clear A
   refine ad fun _ E=>ad fun _ F=>?_
   refine ag 3 7 ?_
   refine aj rr rr<|aj rr rr<|aR (a:=(d.toNat:Int)) (b:=(f.toNat:Int)) (p:=d.toNat < f.toNat) rr rr rr rr bW<|aa.fin F ?_;clear F
   by_cases k:d.toNat < f.toNat
   ·
    replace c:=aA c k
    refine aG (congrArg Value.bool (decide_eq_true k)) ?_
    refine ad fun _ G=>ag 1 1 ?_
    refine ak rr rr<|aa.fin G ?_;clear G
    refine W.ret (a' (aB ?_))
    subst r
    refine ax.mk (.bj rr .nil) ?_
    exact ⟨rr,g⟩
   ·
    replace c:=az c k
    refine aO (congrArg Value.bool (decide_eq_false k)) ?_
    refine W.skip ?_
    refine E _ _ ?_;clear E
    refine ad fun _ H=>ad fun _ I=>?_
    refine ag 3 7 ?_
    refine aj rr rr<|aj rr rr<|aR (a:=(d.toNat:Int)) (b:=(f.toNat:Int)) (p:=f.toNat < d.toNat) rr rr rr rr dL<|aa.fin I ?_;clear I
    by_cases l:f.toNat < d.toNat
    ·
     replace c:=aA c l
     refine aG (congrArg Value.bool (decide_eq_true l)) ?_
     refine ad fun _ J=>ag 1 1 ?_
     refine ak rr rr<|aa.fin J ?_;clear J
     refine W.ret (a' (aB ?_))
     subst r
     refine ax.mk (.bj rr .nil) ?_
     exact ⟨rr,g⟩
    ·
     replace c:=az c l
     refine aO (congrArg Value.bool (decide_eq_false l)) ?_
     refine W.skip ?_
     refine H _ _ ?_;clear H
     refine ad fun _ K=>ag 1 1 ?_
     refine ak rr rr<|aa.fin K ?_;clear K
     refine W.ret (aB ?_)
     subst r
     refine ax.mk (.bj rr .nil) ?_
     exact ⟨rr,g⟩
theorem Fv {B:Nat} {w0:aC} {w:World} {L:List Rg} {d:List Int} {h:Option Addr} {l i E:Nat} (k:LV D3 L E h l i d) {r:Int} (c:pY d r) (F:St B w0 (L) w):
  Calls Tryz.prog 91 #[.slice h l i] w fun e w'=>e= .returned (.int .i64 r)∧St B w0 (L) w':=by
 refine W.enter 18 Tryz.func91 rr rr rr ?_
 unfold pY at c
 have G:=k.hl;subst G
 refine ad fun _ m=>ag 1 1 ?_
 refine ak rr rr<|aa.fin m ?_;clear m
 refine ad fun _ n=>ag 1 1 ?_
 refine ak rr rr<|aa.fin n ?_;clear n
 refine ad fun _ o=>ad fun _ q=>?_
 refine ag 3 7 ?_
 refine aE rr rr<|aa.len DK rr rr<|aj rr rr<|aa.fin q ?_;clear q
 obtain ⟨H,I,J⟩:=c
 refine bq (fun e w=>H=some ()∧aU e [(3,VN 0)]∧St B w0 (L) w) ?_ ?_
 ·
  refine W.block ?_
  refine bS I (fun (K:Nat) e w=>aU e [(3,VN 0),(6,.slice h d.length i),(7,VN d.length),(8,VN K)]∧St B w0 (L) w) ⟨(ab (ab (ab (ab au)))),F⟩ ?_
  rintro t28 T c M N U ⟨O,h30⟩
  obtain ⟨N,rfl⟩:=O.open
  unfold um at c
  refine ad fun _ s=>ag 1 1 ?_
  refine aR (a:=(((t28:Nat):Int):Int)) (b:=(((d.length:Nat):Int):Int)) (p:=t28 < d.length) rr rr rr rr bW<|aa.fin s ?_;clear s
  refine ad fun _ t=>?_
  by_cases f:t28 < d.length
  ·
   replace c:=aA c f
   refine aG (congrArg Value.bool (decide_eq_true f)) ?_
   refine W.skip ?_
   refine t _ _ ?_;clear t
   refine ad fun _ u=>?_
   refine W.block ?_
   refine ad fun _ v=>ag 3 7 ?_
   obtain ⟨y,c⟩:=c
   refine f_ (D:=D3) (j:=t28) h30 k CU rr rr rr y ?_
   refine An (D:=D3) (X:=d) (j:=t28) h30 (0:Int) (fun _ x=> .int .i64 x) k rr rr y rr (fun _ _=>rr) ed fun V Y Z am=>?_
   refine ak rr rr<|aa.fin v ?_;clear v
   refine ad fun _ z=>ag 3 7 ?_
   refine aj rr rr<|aj rr rr<|aR (a:=((d.getD t28 (0:Int)):Int)) (b:=(0:Int)) (p:=(d.getD t28 (0:Int))≠0) rr rr rr rr sN<|aa.fin z ?_;clear z
   by_cases g:(d.getD t28 (0:Int))≠0
   ·
    replace c:=aA c g
    refine aG (congrArg Value.bool (decide_eq_true g)) ?_
    refine ad fun _ A=>ag 2 3 ?_
    refine aj rr rr<|ak rr rr<|aa.fin A ?_;clear A
    refine W.ret (dD (a' (po (dD (a' (a' (aB ?_)))))))
    replace c:=c.2
    subst r
    refine ax.mk (.bj rr .nil) ?_
    exact ⟨rr,h30⟩
   ·
    replace c:=az c g
    refine aO (congrArg Value.bool (decide_eq_false g)) ?_
    refine W.skip ?_
    refine bo ?_
    refine u _ _ ?_;clear u
    refine ag 2 3 ?_
    obtain ⟨ap,c⟩:=c
    refine bu (a:=t28) (b:=1) rr rr rr (by omega)<|aj rr rr<|aa.nil ?_
    exact bG ⟨_,c,(ab (ab (ab (ab au)))),h30⟩
  ·
   replace c:=az c f
   refine aO (congrArg Value.bool (decide_eq_false f)) ?_
   refine W.exit (bM (bU (bL ?_)))
   exact ⟨(M _ c).symm,(ab au),h30⟩
 ·
  rintro P a0 ⟨Q,R,S⟩
  obtain ⟨P,rfl⟩:=R.open
  replace c:=J Q
  refine o _ _ ?_;clear o
  refine ad fun _ C=>ag 2 3 ?_
  refine aj rr rr<|ak rr rr<|aa.fin C ?_;clear C
  refine W.ret (aB ?_)
  subst r
  refine ax.mk (.bj rr .nil) ?_
  exact ⟨rr,S⟩
end Go.Proofs.YtjclppnbbpnfnaaGreatDoor
