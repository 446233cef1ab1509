/-
 WALKS of the package's functions, printed by this session's own program (auto.py).
-/
import Derived.Test.YtjclppnbbpnfnaaGreatDoorWF
import Derived.Test.YtjclppnbbpnfnaaGreatDoorProg
import Derived.Test.YtjclppnbbpnfnaaGreatDoorEd
import Derived.Test.YtjclppnbbpnfnaaGreatDoorRAes
import Derived.Test.YtjclppnbbpnfnaaGreatDoorEls
namespace Go.Proofs.YtjclppnbbpnfnaaGreatDoor
set_option linter.unusedSimpArgs false
set_option linter.unusedVariables false
set_option linter.unusedSectionVars false
set_option maxRecDepth 8000
set_option maxHeartbeats 1000000
open Go Go.LW
theorem wk {B:Nat} {w0:aC} {w:World} {L:List Rg} {h i:BitVec 8} {d:Nat} {m n l:K8} {r:(K8×K8)} (f:mC h i m n l r) (G:St B w0 (g8 d 0 256 m::g8 d 256 256 n::g8 d 512 256 l::L) w):
  Calls Tryz.prog 168 #[VU .u8 h,VU .u8 i,pt d 0] w fun e w'=>e= .returned (.tuple #[])∧St B w0 (g8 d 0 256 r.1::g8 d 256 256 r.2::g8 d 512 256 l::L) w':=by
 refine W.enter 32 Tryz.func168 rr rr rr ?_
 unfold mC at f
 refine ad fun _ s=>ag 2 3 ?_
 refine aj rr rr<|ak rr rr<|aa.fin s ?_;clear s
 refine ad fun _ t=>ad fun _ u=>?_
 refine ag 1 1 ?_
 refine ak rr rr<|aa.fin u ?_;clear u
 obtain ⟨k,H,I⟩:=f
 refine bq (fun e w=>∃q:BitVec 8,k=q∧aU e [(0,VU .u8 h),(2,pt d 0),(5,VU .u8 q)]∧St B w0 (g8 d 0 256 m::g8 d 256 256 n::g8 d 512 256 l::L) w) ?_ ?_
 ·
  refine W.block ?_
  refine bS H (fun (v:((BitVec 8)×Nat)) e w=>aU e [(0,VU .u8 h),(1,VU .u8 i),(2,pt d 0),(5,VU .u8 v.1),(6,VN v.2)]∧St B w0 (g8 d 0 256 m::g8 d 256 256 n::g8 d 512 256 l::L) w) ⟨(ab (ab (ab (ab (ab au))))),G⟩ ?_
  rintro ⟨x,g⟩ R f J K S ⟨M,y⟩
  obtain ⟨K,rfl⟩:=M.open
  unfold pU at f
  refine ad fun _ z=>ad fun _ A=>?_
  refine ag 2 3 ?_
  refine aj rr rr<|aR (a:=(((g:Nat):Int):Int)) (b:=(4:Int)) (p:=g≤4) rr rr rr rr xi<|aa.fin A ?_;clear A
  by_cases o:g≤4
  ·
   replace f:=aA f o
   refine aG (congrArg Value.bool (decide_eq_true o)) ?_
   refine W.skip ?_
   refine z _ _ ?_;clear z
   refine ad fun _ C=>?_
   refine W.block ?_
   refine bd a7 [1,3,5,7,9,11,13,15,17,19,21] ?_
   have h30:=y.drew
   refine aj rr rr<|aj rr rr<|aj rr rr<|hE .u8 (X:=i) (c:=g) rr rr rr<|aj rr rr<|aj rr rr<|jx (a:=8) (b:=g) rr rr rr (by omega)<|cJ .u8 (X:=i) (c:=(8 - g)) rr rr rr ?_
   refine gI .u8 (X:=(i <<< g)) (Y:=(i >>> (8 - g))) rr rr rr<|cp .u8 (X:=x) (Y:=((i <<< g) ||| (i >>> (8 - g)))) rr rr rr<|ak rr rr<|aa.nil ?_
   refine bo ?_
   refine C _ _ ?_;clear C
   refine ag 3 7 ?_
   refine aj rr rr<|bu (a:=g) (b:=1) rr rr rr (by omega)<|ak rr rr<|aa.nil ?_
   exact bG ⟨_,f,(ab (ab (ab (ab (ab au))))),h30⟩
  ·
   replace f:=az f o
   refine aO (congrArg Value.bool (decide_eq_false o)) ?_
   refine W.exit (bM (bU (bL ?_)))
   exact ⟨x,(J _ f).symm,(ab (ab (ab au))),y⟩
 ·
  rintro N T ⟨q,O,P,Q⟩
  obtain ⟨N,rfl⟩:=P.open
  subst O
  replace f:=I
  refine t _ _ ?_;clear t
  refine ad fun _ D=>ag 6 31 ?_
  refine aj rr rr<|aj rr rr<|cp .u8 (X:=k) (Y:=99#8) rr rr rr<|bm hd rr rr<|a1 (j:=h.toNat) eW rr rr rr h.isLt ?_
  refine cr (j:=h.toNat) (X:=(k ^^^ (99#8))) Q 0 rr rr rr rr (by first | omega | exact h.isLt) bJ rr fun U E=>?_
  simp only [ah,ai,aq,ar] at E
  refine aa.fin D ?_;clear D
  refine ag 6 31 ?_
  refine aj rr rr<|cp .u8 (X:=k) (Y:=99#8) rr rr rr<|aj rr rr<|aa.fieldAddr 256 DU rr rr<|a1 (j:=(k ^^^ (99#8)).toNat) eW rr rr rr (k ^^^ (99#8)).isLt ?_
  refine cr (j:=(k ^^^ (99#8)).toNat) (X:=h) E 1 rr rr rr rr (by first | omega | exact (k ^^^ (99#8)).isLt) bJ rr fun V F=>?_
  simp only [ah,ai,aq,ar] at F
  refine aa.nil ?_
  refine lX ?_
  subst r
  refine ax.mk .nil ?_
  exact ⟨rr,F⟩
theorem py {B:Nat} {w0:aC} {w:World} {L:List Rg} {q s:BitVec 8} {r:(BitVec 8)} (d:jG q s r) (H:St B w0 (L) w):
  Calls Tryz.prog 169 #[VU .u8 q,VU .u8 s] w fun e w'=>e= .returned (VU .u8 r)∧St B w0 (L) w':=by
 refine W.enter 26 Tryz.func169 rr rr rr ?_
 unfold jG at d
 refine ad fun _ t=>ag 1 1 ?_
 refine ak rr rr<|aa.fin t ?_;clear t
 refine ad fun _ u=>ag 1 1 ?_
 refine ak rr rr<|aa.fin u ?_;clear u
 refine ad fun _ v=>?_
 obtain ⟨I,J,K⟩:=d
 refine bq (fun e w=>∃l:BitVec 8,I=l∧aU e [(5,VU .u8 l)]∧St B w0 (L) w) ?_ ?_
 ·
  refine W.block ?_
  refine bS J (fun (m:((BitVec 8)×(BitVec 8)×(BitVec 8))) e w=>aU e [(0,VU .u8 m.1),(1,VU .u8 m.2.1),(5,VU .u8 m.2.2)]∧St B w0 (L) w) ⟨(ab (ab (ab au))),H⟩ ?_
  rintro ⟨a41,f,g⟩ a0 d M N a2 ⟨O,n⟩
  obtain ⟨N,rfl⟩:=O.open
  unfold k2 at d
  refine ad fun _ x=>ad fun _ y=>?_
  refine ag 2 3 ?_
  refine aj rr rr<|aR (a:=(f.toNat:Int)) (b:=((0#8).toNat:Int)) (p:=f≠0#8) rr rr rr rr eV<|aa.fin y ?_;clear y
  by_cases h:f≠0#8
  ·
   replace d:=aA d h
   refine aG (congrArg Value.bool (decide_eq_true h)) ?_
   refine W.skip ?_
   refine x _ _ ?_;clear x
   refine ad fun _ i=>?_
   refine W.block ?_
   refine ad fun _ z=>?_
   obtain ⟨P,Q,R⟩:=d
   refine bq (fun e w=>∃o:BitVec 8,(P=o)∧aU e [(0,VU .u8 a41),(1,VU .u8 f),(5,VU .u8 o)]∧St B w0 (L) w) ?_ ?_
   ·
    replace d:=Q
    refine ad fun _ A=>ag 3 7 ?_
    refine aj rr rr<|dx .u8 (X:=f) (Y:=1#8) rr rr rr<|aR (a:=((f &&& (1#8)).toNat:Int)) (b:=((1#8).toNat:Int)) (p:=(f &&& (1#8))=1#8) rr rr rr rr ih<|aa.fin A ?_;clear A
    by_cases j:(f &&& (1#8))=1#8
    ·
     replace d:=aA d j
     refine aG (congrArg Value.bool (decide_eq_true j)) ?_
     refine ag 4 15 ?_
     refine aj rr rr<|aj rr rr<|cp .u8 (X:=g) (Y:=a41) rr rr rr<|ak rr rr<|aa.nil ?_
     exact ⟨(g ^^^ a41),d,(ab (ab (ab au))),n⟩
    ·
     replace d:=az d j
     refine aO (congrArg Value.bool (decide_eq_false j)) ?_
     refine W.skip ?_
     exact ⟨g,d,(ab (ab (ab au))),n⟩
   ·
    rintro S a3 ⟨o,T,U,C⟩
    subst T
    obtain ⟨S,rfl⟩:=U.open
    replace d:=R
    refine z _ _ ?_;clear z
    refine ad fun _ D=>ag 4 15 ?_
    refine aj rr rr<|dx .u8 (X:=a41) (Y:=128#8) rr rr rr<|aR (a:=((a41 &&& (128#8)).toNat:Int)) (b:=((0#8).toNat:Int)) (p:=(a41 &&& (128#8))≠0#8) rr rr rr rr eV<|a8 rr rr<|aa.fin D ?_;clear D
    refine ad fun _ E=>ag 3 7 ?_
    refine aj rr rr<|hE .u8 (X:=a41) (c:=1) rr rr rr<|ak rr rr<|aa.fin E ?_;clear E
    refine ad fun _ F=>ag 1 1 ?_
    refine a_ rr rr<|aa.fin F ?_;clear F
    by_cases k:(a41 &&& (128#8))≠0#8
    ·
     replace d:=aA d k
     refine aG (congrArg Value.bool (decide_eq_true k)) ?_
     refine ag 3 7 ?_
     refine aj rr rr<|cp .u8 (X:=(a41 <<< 1)) (Y:=27#8) rr rr rr<|ak rr rr<|aa.nil ?_
     refine bo ?_
     refine i _ _ ?_;clear i
     refine ag 3 7 ?_
     refine aj rr rr<|cJ .u8 (X:=f) (c:=1) rr rr rr<|ak rr rr<|aa.nil ?_
     exact bG ⟨_,d,(ab (ab (ab au))),C⟩
    ·
     replace d:=az d k
     refine aO (congrArg Value.bool (decide_eq_false k)) ?_
     refine W.skip ?_
     refine bo ?_
     refine i _ _ ?_;clear i
     refine ag 3 7 ?_
     refine aj rr rr<|cJ .u8 (X:=f) (c:=1) rr rr rr<|ak rr rr<|aa.nil ?_
     exact bG ⟨_,d,(ab (ab (ab au))),C⟩
  ·
   replace d:=az d h
   refine aO (congrArg Value.bool (decide_eq_false h)) ?_
   refine W.exit (bM (bU (bL ?_)))
   exact ⟨g,(M _ d).symm,(ab au),n⟩
 ·
  rintro V a4 ⟨l,Z,am,ap⟩
  obtain ⟨V,rfl⟩:=am.open
  subst Z
  replace d:=K
  refine v _ _ ?_;clear v
  refine ad fun _ G=>ag 2 3 ?_
  refine aj rr rr<|ak rr rr<|aa.fin G ?_;clear G
  refine W.ret (aB ?_)
  subst r
  refine ax.mk (.bj rr .nil) ?_
  exact ⟨rr,ap⟩
theorem Br {B:Nat} {w0:aC} {w:World} {L:List Rg} {r:(K8×K8×K8)} (c:pT r) (a4:St B w0 (L) w):
  Calls Tryz.prog 135 #[] w fun e w'=>e= .returned (AG [p8 256 r.1,p8 256 r.2.1,p8 256 r.2.2])∧St B w0 (L) w':=by
 refine W.enter 32 Tryz.func135 rr rr rr ?_
 unfold pT at c
 refine ad fun _ t=>ag 1 0 ?_
 refine aa.alloc a4 rr ta ae.nil fun g es ex h2=>?_
 simp only [ao,Nat.zero_add,Nat.reduceAdd,ah,ai] at h2
 refine aa.fin t ?_;clear t
 refine ad fun _ u=>ag 3 1 ?_
 refine fY Cu ta rr ?_
 refine aa.alloc h2 rr ta ae.nil fun d fd fn v=>?_
 simp only [ao,Nat.zero_add,Nat.reduceAdd,ah,ai] at v
 refine bA (ps:= [p8 256 (fun _=>0#8),p8 256 (fun _=>0#8),p8 256 (fun _=>0#8)]) v rr rr rr (.cons 0 rr (.cons 1 rr (.cons 2 rr .nil))) ⟨fun _ _=>rr,fun _ _=>rr,fun _ _=>rr,trivial⟩ xP (av.keep ae.nil) fun f0 x=>?_
 simp only [ah,ai,aq,ar] at x
 refine aa.fin u ?_;clear u
 refine ad fun _ y=>ag 2 3 ?_
 refine ak rr rr<|ak rr rr<|aa.fin y ?_;clear y
 refine ad fun _ z=>ag 2 3 ?_
 refine DQ rr rr<|aa.assign rr rr<|aa.fin z ?_;clear z
 refine ad fun _ A=>ag 2 1 ?_
 refine aa.move rr rr ?_
 obtain ⟨f1,f2,a5,c⟩:=c
 refine nH (f:=168) (vs:= [VU .u8 (0#8),VU .u8 (0#8)]) (cs:= [pt d 0]) rr rr tE rr (wk a5 x) ?_
 rintro _ f3 ⟨rfl,D⟩
 refine ⟨_,rr,.inl ⟨ae.keep (by exact ae.nil) D,?_⟩⟩
 refine aa.fin A ?_;clear A
 refine ad fun _ E=>ad fun _ F=>?_
 refine ag 1 1 ?_
 refine aj rr rr<|aa.fin F ?_;clear F
 obtain ⟨i,k,a9,be⟩:=c
 refine bq (fun e w=>∃n o:K8,(i,k)=(n,o)∧aU e [(0,pt g 0),(1,pt d 0)]∧St B w0 (g8 d 0 256 n::g8 d 256 256 o::g8 d 512 256 (fun _=>0#8)::g8 g 0 256 (fun _=>0#8)::g8 g 256 256 (fun _=>0#8)::g8 g 512 256 (fun _=>0#8)::L) w) ?_ ?_
 ·
  refine W.block ?_
  refine bS a9 (fun (h:((BitVec 8)×(BitVec 8)×Nat×K8×K8)) e w=>aU e [(0,pt g 0),(1,pt d 0),(2,VU .u8 h.1),(3,VU .u8 h.2.1),(4,.func (.func 168) #[] #[pt d 0]),(10,VN h.2.2.1)]∧St B w0 (g8 d 0 256 h.2.2.2.1::g8 d 256 256 h.2.2.2.2::g8 d 512 256 (fun _=>0#8)::g8 g 0 256 (fun _=>0#8)::g8 g 256 256 (fun _=>0#8)::g8 g 512 256 (fun _=>0#8)::L) w) ⟨(ab (ab (ab (ab (ab (ab au)))))),D⟩ ?_
  rintro ⟨bi,bv,t51,cc,cd⟩ f4 c ce ci f5 ⟨cl,G⟩
  obtain ⟨ci,rfl⟩:=cl.open
  unfold pk at c
  refine ad fun _ H=>ag 1 1 ?_
  refine aR (a:=(((t51:Nat):Int):Int)) (b:=(255:Int)) (p:=t51 < 255) rr rr rr rr bW<|aa.fin H ?_;clear H
  refine ad fun _ I=>?_
  by_cases l:t51 < 255
  ·
   replace c:=aA c l
   refine aG (congrArg Value.bool (decide_eq_true l)) ?_
   refine W.skip ?_
   refine I _ _ ?_;clear I
   refine ad fun _ J=>?_
   refine W.block ?_
   refine ad fun _ K=>ag 4 7 ?_
   refine aa.move rr rr<|aj rr rr<|aj rr rr ?_
   obtain ⟨f6,f7,co,c⟩:=c
   refine nH (f:=168) (vs:= [VU .u8 bi,VU .u8 bv]) (cs:= [pt d 0]) rr rr tE rr (wk co G) ?_
   rintro _ f8 ⟨rfl,M⟩
   refine ⟨_,rr,.inl ⟨ae.keep (by exact ae.nil) M,?_⟩⟩
   refine aa.fin K ?_;clear K
   refine ag 6 53 ?_
   refine aj rr rr ?_
   obtain ⟨f9,c1,c⟩:=c
   refine aw n1 (py c1 M) ?_
   rintro _ f' ⟨rfl,N⟩
   refine ⟨_,rr,.inl ⟨ae.keep (by exact ae.nil) N,?_⟩⟩
   refine aj rr rr ?_
   obtain ⟨gc,c2,c⟩:=c
   refine aw n1 (py c2 N) ?_
   rintro _ gd ⟨rfl,O⟩
   refine ⟨_,rr,.inl ⟨ae.keep (by exact ae.nil) O,?_⟩⟩
   refine ak rr rr<|ak rr rr<|aa.nil ?_
   refine bo ?_
   refine J _ _ ?_;clear J
   refine ag 2 3 ?_
   refine bu (a:=t51) (b:=1) rr rr rr (by omega)<|aj rr rr<|aa.nil ?_
   exact bG ⟨_,c,(ab (ab (ab (ab (ab (ab au)))))),O⟩
  ·
   replace c:=az c l
   refine aO (congrArg Value.bool (decide_eq_false l)) ?_
   refine W.exit (bM (bU (bL ?_)))
   exact ⟨cc,cd,(ce _ c).symm,(ab (ab au)),G⟩
 ·
  rintro dl ge ⟨n,o,ds,d0,d1⟩
  obtain ⟨dl,rfl⟩:=d0.open
  cases ds
  replace c:=be
  refine E _ _ ?_;clear E
  refine ad fun _ P=>ad fun _ Q=>?_
  refine ag 1 1 ?_
  refine aj rr rr<|aa.fin Q ?_;clear Q
  obtain ⟨R,d2,d3⟩:=c
  refine bq (fun e w=>∃q:K8,R=q∧aU e [(0,pt g 0),(1,pt d 0)]∧St B w0 (g8 d 0 256 i::g8 d 256 256 k::g8 d 512 256 q::g8 g 0 256 (fun _=>0#8)::g8 g 256 256 (fun _=>0#8)::g8 g 512 256 (fun _=>0#8)::L) w) ?_ ?_
  ·
   refine W.block ?_
   refine bS d2 (fun (S:(Nat×K8)) e w=>aU e [(0,pt g 0),(1,pt d 0),(21,VN S.1)]∧St B w0 (g8 d 0 256 i::g8 d 256 256 k::g8 d 512 256 S.2::g8 g 0 256 (fun _=>0#8)::g8 g 256 256 (fun _=>0#8)::g8 g 512 256 (fun _=>0#8)::L) w) ⟨(ab (ab (ab au))),d1⟩ ?_
   rintro ⟨t95,d4⟩ go c d5 d6 gs ⟨d7,T⟩
   obtain ⟨d6,rfl⟩:=d7.open
   unfold oO at c
   refine ad fun _ U=>ag 1 1 ?_
   refine aR (a:=(((t95:Nat):Int):Int)) (b:=(256:Int)) (p:=t95 < 256) rr rr rr rr bW<|aa.fin U ?_;clear U
   refine ad fun _ V=>?_
   by_cases m:t95 < 256
   ·
    replace c:=aA c m
    refine aG (congrArg Value.bool (decide_eq_true m)) ?_
    refine W.skip ?_
    refine V _ _ ?_;clear V
    refine ad fun _ Y=>?_
    refine W.block ?_
    refine ad fun _ Z=>ag 2 3 ?_
    refine aj rr rr<|ak rr rr<|aa.fin Z ?_;clear Z
    refine ag 7 55 ?_
    refine aj rr rr<|aj rr rr<|kf .u8 (a:=t95) cw e_ rr rr ?_
    obtain ⟨d8,d9,c⟩:=c
    refine aw n1 (py d9 T) ?_
    rintro _ gt ⟨rfl,am⟩
    refine ⟨_,rr,.inl ⟨ae.keep (by exact ae.nil) am,?_⟩⟩
    refine aa.fieldAddr 512 wK rr rr<|a1 (j:=t95) eW rr rr rr (by omega) ?_
    refine cr (j:=t95) (X:=d8) am 2 rr rr rr rr (by omega) bJ rr fun g0 ap=>?_
    simp only [ah,ai,aq,ar] at ap
    refine aa.nil ?_
    refine bo ?_
    refine Y _ _ ?_;clear Y
    refine ag 2 3 ?_
    refine bu (a:=t95) (b:=1) rr rr rr (by omega)<|aj rr rr<|aa.nil ?_
    exact bG ⟨_,c,(ab (ab (ab au))),ap⟩
   ·
    replace c:=az c m
    refine aO (congrArg Value.bool (decide_eq_false m)) ?_
    refine W.exit (bM (bU (bL ?_)))
    exact ⟨d4,(d5 _ c).symm,(ab (ab au)),T⟩
  ·
   rintro el g1 ⟨q,em,eq,a0⟩
   obtain ⟨el,rfl⟩:=eq.open
   subst em
   replace c:=d3
   refine P _ _ ?_;clear P
   refine ad fun _ a2=>ag 2 1 ?_
   refine bO a0 rr rr (.cons 0 rr (.cons 1 rr (.cons 2 rr .nil))) yS ?_
   refine bA (ps:= [p8 256 i,p8 256 k,p8 256 R]) a0 rr rr rr (.cons 3 rr (.cons 4 rr (.cons 5 rr .nil))) ⟨fun _ _=>rr,fun _ _=>rr,fun _ _=>rr,trivial⟩ xP (av.wait rr) fun g2 s=>?_
   simp only [ah,ai,aq,ar] at s
   refine aa.fin a2 ?_;clear a2
   refine W.ret (aB ?_)
   have a3:=St.aF (C:= [_,_,_,_,_,_]) s [] (by decide)
   simp only [pick,aL,aK,aM,aJ,ah,ai] at a3
   subst r
   refine ax.mk (.agg s rr (.cons 3 rr (.cons 4 rr (.cons 5 rr .nil))) yS .nil) ?_
   exact ⟨rr,a3⟩
theorem D' {B:Nat} {w0:aC} {w:World} {L:List Rg} {g:Nat} {v h l o:K8} {k:List af} {x:Option Addr} {am y f6:Nat} (ap:Bx L f6 x am y k) {r:K8} (d:pn v h l o k r) (f7:St B w0 (g8 g 0 240 v::g8 g 240 256 h::g8 g 496 256 l::g8 g 752 256 o::L) w):
  Calls Tryz.prog 136 #[pt g 0,.slice x am y] w fun e w'=>e= .returned (.tuple #[])∧St B w0 (g8 g 0 240 r::g8 g 240 256 h::g8 g 496 256 l::g8 g 752 256 o::L) w':=by
 refine W.enter 141 Tryz.func136 rr rr rr ?_
 unfold pn at d
 have f8:=ap.hl;subst f8
 refine ad fun _ a0=>ag 1 0 ?_
 refine aa.alloc f7 rr A5 ae.nil fun s kw lc a2=>?_
 simp only [ao,Nat.zero_add,Nat.reduceAdd,ah,ai] at a2
 refine aa.fin a0 ?_;clear a0
 refine ad fun _ a3=>ag 1 1 ?_
 refine ak rr rr<|aa.fin a3 ?_;clear a3
 refine ad fun _ a4=>ad fun _ a5=>?_
 refine ag 1 1 ?_
 refine aj rr rr<|aa.fin a5 ?_;clear a5
 obtain ⟨A,f9,gc⟩:=d
 refine bq (fun e w=>∃O:K8,A=O∧aU e [(0,pt g 0),(4,pt s 0)]∧St B w0 (g8 s 0 240 O::g8 g 0 240 v::g8 g 240 256 h::g8 g 496 256 l::g8 g 752 256 o::L) w) ?_ ?_
 ·
  refine W.block ?_
  refine bS f9 (fun (P:((BitVec 8)×Nat×K8)) e w=>aU e [(0,pt g 0),(1,.slice x k.length y),(4,pt s 0),(5,VU .u8 P.1),(11,VN P.2.1)]∧St B w0 (g8 s 0 240 P.2.2::g8 g 0 240 v::g8 g 240 256 h::g8 g 496 256 l::g8 g 752 256 o::L) w) ⟨(ab (ab (ab (ab (ab au))))),a2⟩ ?_
  rintro ⟨z,t182,f⟩ ld d gd ge le ⟨go,C⟩
  obtain ⟨ge,rfl⟩:=go.open
  unfold pB at d
  refine ad fun _ a9=>ag 1 1 ?_
  refine aR (a:=(((t182:Nat):Int):Int)) (b:=(60:Int)) (p:=t182 < 60) rr rr rr rr bW<|aa.fin a9 ?_;clear a9
  refine ad fun _ be=>?_
  by_cases D:t182 < 60
  ·
   replace d:=aA d D
   refine aG (congrArg Value.bool (decide_eq_true D)) ?_
   refine W.skip ?_
   refine be _ _ ?_;clear be
   refine ad fun _ E=>?_
   refine W.block ?_
   refine ad fun _ bi=>ag 2 3 ?_
   refine aj rr rr<|ak rr rr<|aa.fin bi ?_;clear bi
   refine ad fun _ bv=>ad fun _ cd=>?_
   refine ag 2 3 ?_
   refine aj rr rr<|aR (a:=(((t182:Nat):Int):Int)) (b:=(8:Int)) (p:=t182 < 8) rr rr rr rr bW<|aa.fin cd ?_;clear cd
   by_cases F:t182 < 8
   ·
    replace d:=aA d F
    refine aG (congrArg Value.bool (decide_eq_true F)) ?_
    refine ad fun _ ce=>?_
    refine bd a7 [1,3,5,7,9,11,13,14] ?_
    have gs:=C.drew
    refine aj rr rr<|c3 (j:=t182) (o':=0+(t182*4)) oy rr rr rr (by omega) (by omega)<|c8 (lo:=0) (hi:=4) (m:=4) (c:=4) (o':=0+(t182*4)) fh rr rr rr rr (by omega) (by omega) (by omega) (by omega)<|aE rr rr<|aj rr rr<|fr (a:=4) (b:=t182) rr rr rr (by omega) ?_
    obtain ⟨gt,d⟩:=d
    refine e6 (lo:=(4*t182)) (hi:=k.length) ap b4 rr rr ⟨_,rr⟩ rr gt fun a198 li g0=>?_
    refine js (jd:=t182*4) (X:=(aT k (4*t182) k.length)) gs 0 (min ((aT k (4*t182) k.length).length) 4) b4 rr rr rr rr ((g0.app [_,_,_,_,_]).iK 0 rr) (fun _=>⟨_,rr,rr⟩) rr rr (by omega) (av.keep ae.nil) fun lm ci=>?_
    simp only [ah,ai,aq,ar] at ci
    refine aa.fin ce ?_;clear ce
    refine W.exit (bM (bL ?_))
    refine E _ _ ?_;clear E
    refine ag 2 3 ?_
    refine bu (a:=t182) (b:=1) rr rr rr (by omega)<|aj rr rr<|aa.nil ?_
    exact bG ⟨_,d,(ab (ab (ab (ab (ab au))))),ci⟩
   ·
    replace d:=az d F
    refine aO (congrArg Value.bool (decide_eq_false F)) ?_
    refine W.skip ?_
    refine bv _ _ ?_;clear bv
    refine ad fun _ cl=>ag 6 15 ?_
    refine aj rr rr<|jx (a:=t182) (b:=1) rr rr rr (by omega)<|c3 (j:=(t182 - 1)) (o':=0+((t182 - 1)*4)) oy rr rr rr (by omega) (by omega)<|lf (m':=4) C 0 ((t182 - 1)*4) rr rr rr rr (by omega) uE ?_
    refine aa.alloc C rr nY (ae.cons 0 rr ae.nil) fun G ls lt co=>?_
    simp only [ao,Nat.zero_add,Nat.reduceAdd,ah,ai] at co
    refine aY (f':=fun q=>VU .u8 ((fun q=>f (((t182 - 1)*4)+q)) q)) co 0 rr rr rr rr (fun _ _=>rr) p9 rr fun lw H=>?_
    simp only [ah,ai,aq,ar] at H
    refine aa.fin cl ?_;clear cl
    refine ad fun _ cs=>?_
    obtain ⟨Q,I,g1,g2⟩:=d
    refine bq (fun e w=>∃R:BitVec 8,∃S:K8,(Q=R∧I=S)∧aU e [(0,pt g 0),(1,.slice x k.length y),(4,pt s 0),(5,VU .u8 R),(6,VN t182),(7,pt G 0),(11,VN t182)]∧St B w0 (g8 G 0 4 S::g8 s 0 240 f::g8 g 0 240 v::g8 g 240 256 h::g8 g 496 256 l::g8 g 752 256 o::L) w) ?_ ?_
    ·
     replace d:=g1
     refine ad fun _ c1=>ag 2 3 ?_
     refine aj rr rr<|iJ (a:=t182) (b:=8) rr rr rr (by omega)<|aa.fin c1 ?_;clear c1
     refine W.block ?_
     refine ad fun _ c2=>ag 2 3 ?_
     refine aR (a:=((((t182 % 8):Nat):Int):Int)) (b:=(0:Int)) (p:=(t182 % 8)=0) rr rr rr rr fL<|a8 rr rr<|aa.fin c2 ?_;clear c2
     by_cases J:(t182 % 8)=0
     ·
      replace d:=aA d J
      refine aG (congrArg Value.bool (decide_eq_true J)) ?_
      refine ad fun _ ds=>?_
      refine bd a7 [1,3,5,7,9,11,13,15,17,19,21,23,25,27,29,31,33,35,37,39,41,43,45,47,49,51,53,55,57,59,61,63,65,67,69,70] ?_
      have t:=H.drew
      refine aD rr rr<|a1 (j:=1) fh rr rr rr (by omega)<|bk (j:=1) t 0 rr rr rr (by omega) bZ<|aa.nilCheck rr rr<|aa.fieldAddr 240 hC rr rr<|bm hd rr rr ?_
      refine a1 (j:=((fun q=>f (((t182 - 1)*4)+q)) 1).toNat) eW rr rr rr ((fun q=>f (((t182 - 1)*4)+q)) 1).isLt ?_
      refine bk (j:=((fun q=>f (((t182 - 1)*4)+q)) 1).toNat) t 3 rr rr rr (by omega) bZ ?_
      refine aj rr rr ?_
      refine cp .u8 (X:=(h (((fun q=>f (((t182 - 1)*4)+q)) 1).toNat))) (Y:=z) rr rr rr ?_
      refine aD rr rr<|a1 (j:=2) fh rr rr rr (by omega)<|bk (j:=2) t 0 rr rr rr (by omega) bZ<|aa.nilCheck rr rr<|aa.fieldAddr 240 hC rr rr<|bm hd rr rr ?_
      refine a1 (j:=((fun q=>f (((t182 - 1)*4)+q)) 2).toNat) eW rr rr rr ((fun q=>f (((t182 - 1)*4)+q)) 2).isLt ?_
      refine bk (j:=((fun q=>f (((t182 - 1)*4)+q)) 2).toNat) t 3 rr rr rr (by omega) bZ ?_
      refine aD rr rr<|a1 (j:=3) fh rr rr rr (by omega)<|bk (j:=3) t 0 rr rr rr (by omega) bZ<|aa.nilCheck rr rr<|aa.fieldAddr 240 hC rr rr<|bm hd rr rr ?_
      refine a1 (j:=((fun q=>f (((t182 - 1)*4)+q)) 3).toNat) eW rr rr rr ((fun q=>f (((t182 - 1)*4)+q)) 3).isLt ?_
      refine bk (j:=((fun q=>f (((t182 - 1)*4)+q)) 3).toNat) t 3 rr rr rr (by omega) bZ ?_
      refine aD rr rr<|a1 (j:=0) fh rr rr rr (by omega)<|bk (j:=0) t 0 rr rr rr (by omega) bZ<|aa.nilCheck rr rr<|aa.fieldAddr 240 hC rr rr<|bm hd rr rr ?_
      refine a1 (j:=((fun q=>f (((t182 - 1)*4)+q)) 0).toNat) eW rr rr rr ((fun q=>f (((t182 - 1)*4)+q)) 0).isLt ?_
      refine bk (j:=((fun q=>f (((t182 - 1)*4)+q)) 0).toNat) t 3 rr rr rr (by omega) bZ ?_
      refine gu (ps:= [(4,fun q=>VU .u8 ((lit [((h (((fun q=>f (((t182 - 1)*4)+q)) 1).toNat)) ^^^ z),(h (((fun q=>f (((t182 - 1)*4)+q)) 2).toNat)),(h (((fun q=>f (((t182 - 1)*4)+q)) 3).toNat)),(h (((fun q=>f (((t182 - 1)*4)+q)) 0).toNat))]) q))]) fh nY rr rr rr ?_
      refine aY (f':=fun q=>VU .u8 ((lit [((h (((fun q=>f (((t182 - 1)*4)+q)) 1).toNat)) ^^^ z),(h (((fun q=>f (((t182 - 1)*4)+q)) 2).toNat)),(h (((fun q=>f (((t182 - 1)*4)+q)) 3).toNat)),(h (((fun q=>f (((t182 - 1)*4)+q)) 0).toNat))]) q)) t 0 rr rr rr rr (fun _ _=>rr) p9 rr fun md d0=>?_
      simp only [ah,ai,aq,ar] at d0
      refine aa.fin ds ?_;clear ds
      refine ag 3 5 ?_
      refine aj rr rr ?_
      obtain ⟨g3,g4,d⟩:=d
      refine aw n1 (py g4 d0) ?_
      rintro _ mp ⟨rfl,d1⟩
      refine ⟨_,rr,.inl ⟨ae.keep (by exact ae.nil) d1,?_⟩⟩
      refine ak rr rr<|aa.nil ?_
      refine bo ?_
      exact ⟨g3,(lit [((h (((fun q=>f (((t182 - 1)*4)+q)) 1).toNat)) ^^^ z),(h (((fun q=>f (((t182 - 1)*4)+q)) 2).toNat)),(h (((fun q=>f (((t182 - 1)*4)+q)) 3).toNat)),(h (((fun q=>f (((t182 - 1)*4)+q)) 0).toNat))]),d,(ab (ab (ab (ab (ab (ab (ab au))))))),d1⟩
     ·
      replace d:=az d J
      refine aO (congrArg Value.bool (decide_eq_false J)) ?_
      refine ad fun _ d2=>ag 2 3 ?_
      refine aR (a:=((((t182 % 8):Nat):Int):Int)) (b:=(4:Int)) (p:=(t182 % 8)=4) rr rr rr rr fL<|a8 rr rr<|aa.fin d2 ?_;clear d2
      by_cases K:(t182 % 8)=4
      ·
       replace d:=aA d K
       refine aG (congrArg Value.bool (decide_eq_true K)) ?_
       refine bd a7 [1,3,5,7,9,11,13,15,17,19,21,23,25,27,29,31,33,35,37,39,41,43,45,47,49,51,53,55,57,59,61,63,65,66] ?_
       have u:=H.drew
       refine aD rr rr<|a1 (j:=0) fh rr rr rr (by omega)<|bk (j:=0) u 0 rr rr rr (by omega) bZ<|aa.nilCheck rr rr<|aa.fieldAddr 240 hC rr rr<|bm hd rr rr ?_
       refine a1 (j:=((fun q=>f (((t182 - 1)*4)+q)) 0).toNat) eW rr rr rr ((fun q=>f (((t182 - 1)*4)+q)) 0).isLt ?_
       refine bk (j:=((fun q=>f (((t182 - 1)*4)+q)) 0).toNat) u 3 rr rr rr (by omega) bZ ?_
       refine aD rr rr<|a1 (j:=1) fh rr rr rr (by omega)<|bk (j:=1) u 0 rr rr rr (by omega) bZ<|aa.nilCheck rr rr<|aa.fieldAddr 240 hC rr rr<|bm hd rr rr ?_
       refine a1 (j:=((fun q=>f (((t182 - 1)*4)+q)) 1).toNat) eW rr rr rr ((fun q=>f (((t182 - 1)*4)+q)) 1).isLt ?_
       refine bk (j:=((fun q=>f (((t182 - 1)*4)+q)) 1).toNat) u 3 rr rr rr (by omega) bZ ?_
       refine aD rr rr<|a1 (j:=2) fh rr rr rr (by omega)<|bk (j:=2) u 0 rr rr rr (by omega) bZ<|aa.nilCheck rr rr<|aa.fieldAddr 240 hC rr rr<|bm hd rr rr ?_
       refine a1 (j:=((fun q=>f (((t182 - 1)*4)+q)) 2).toNat) eW rr rr rr ((fun q=>f (((t182 - 1)*4)+q)) 2).isLt ?_
       refine bk (j:=((fun q=>f (((t182 - 1)*4)+q)) 2).toNat) u 3 rr rr rr (by omega) bZ ?_
       refine aD rr rr<|a1 (j:=3) fh rr rr rr (by omega)<|bk (j:=3) u 0 rr rr rr (by omega) bZ<|aa.nilCheck rr rr<|aa.fieldAddr 240 hC rr rr<|bm hd rr rr ?_
       refine a1 (j:=((fun q=>f (((t182 - 1)*4)+q)) 3).toNat) eW rr rr rr ((fun q=>f (((t182 - 1)*4)+q)) 3).isLt ?_
       refine bk (j:=((fun q=>f (((t182 - 1)*4)+q)) 3).toNat) u 3 rr rr rr (by omega) bZ ?_
       refine gu (ps:= [(4,fun q=>VU .u8 ((lit [(h (((fun q=>f (((t182 - 1)*4)+q)) 0).toNat)),(h (((fun q=>f (((t182 - 1)*4)+q)) 1).toNat)),(h (((fun q=>f (((t182 - 1)*4)+q)) 2).toNat)),(h (((fun q=>f (((t182 - 1)*4)+q)) 3).toNat))]) q))]) fh nY rr rr rr ?_
       refine aY (f':=fun q=>VU .u8 ((lit [(h (((fun q=>f (((t182 - 1)*4)+q)) 0).toNat)),(h (((fun q=>f (((t182 - 1)*4)+q)) 1).toNat)),(h (((fun q=>f (((t182 - 1)*4)+q)) 2).toNat)),(h (((fun q=>f (((t182 - 1)*4)+q)) 3).toNat))]) q)) u 0 rr rr rr rr (fun _ _=>rr) p9 rr fun ms d3=>?_
       simp only [ah,ai,aq,ar] at d3
       refine aa.nil ?_
       refine bo ?_
       exact ⟨z,(lit [(h (((fun q=>f (((t182 - 1)*4)+q)) 0).toNat)),(h (((fun q=>f (((t182 - 1)*4)+q)) 1).toNat)),(h (((fun q=>f (((t182 - 1)*4)+q)) 2).toNat)),(h (((fun q=>f (((t182 - 1)*4)+q)) 3).toNat))]),d,(ab (ab (ab (ab (ab (ab (ab au))))))),d3⟩
      ·
       replace d:=az d K
       refine aO (congrArg Value.bool (decide_eq_false K)) ?_
       refine W.skip ?_
       refine bo ?_
       exact ⟨z,(fun q=>f (((t182 - 1)*4)+q)),d,(ab (ab (ab (ab (ab (ab (ab au))))))),H⟩
    ·
     rintro g5 mt ⟨R,S,⟨g6,g7⟩,g9,he⟩
     subst g6
     subst g7
     obtain ⟨g5,rfl⟩:=g9.open
     replace d:=g2
     refine cs _ _ ?_;clear cs
     refine ad fun _ d4=>ag 1 1 ?_
     refine aj rr rr<|aa.fin d4 ?_;clear d4
     obtain ⟨hk,hm,hu⟩:=d
     refine bq (fun e w=>∃T:K8,hk=T∧aU e [(0,pt g 0),(1,.slice x k.length y),(4,pt s 0),(5,VU .u8 Q),(11,VN t182)]∧St B w0 (g8 s 0 240 T::g8 g 0 240 v::g8 g 240 256 h::g8 g 496 256 l::g8 g 752 256 o::L) w) ?_ ?_
     ·
      refine W.block ?_
      refine bS hm (fun (d5:(Nat×K8)) e w=>aU e [(0,pt g 0),(1,.slice x k.length y),(4,pt s 0),(5,VU .u8 Q),(6,VN t182),(7,pt G 0),(11,VN t182),(104,VN d5.1)]∧St B w0 (g8 G 0 4 I::g8 s 0 240 d5.2::g8 g 0 240 v::g8 g 240 256 h::g8 g 496 256 l::g8 g 752 256 o::L) w) ⟨(ab (ab (ab (ab (ab (ab (ab (ab au)))))))),he⟩ ?_
      rintro ⟨t250,U⟩ m0 d hw hH m1 ⟨hO,d6⟩
      obtain ⟨hH,rfl⟩:=hO.open
      unfold pE at d
      refine ad fun _ d7=>ag 1 1 ?_
      refine aR (a:=(((t250:Nat):Int):Int)) (b:=(4:Int)) (p:=t250 < 4) rr rr rr rr bW<|aa.fin d7 ?_;clear d7
      refine ad fun _ d8=>?_
      by_cases M:t250 < 4
      ·
       replace d:=aA d M
       refine aG (congrArg Value.bool (decide_eq_true M)) ?_
       refine W.skip ?_
       refine d8 _ _ ?_;clear d8
       refine ad fun _ d9=>?_
       refine W.block ?_
       refine ad fun _ el=>ag 2 3 ?_
       refine aj rr rr<|ak rr rr<|aa.fin el ?_;clear el
       refine bd a7 [1,3,5,7,9,11,13,15,17,19,21,23,25,27,28] ?_
       have V:=d6.drew
       refine aj rr rr<|aj rr rr<|aj rr rr<|jx (a:=t182) (b:=8) rr rr rr (by omega)<|aj rr rr<|c3 (j:=(t182 - 8)) (o':=0+((t182 - 8)*4)) oy rr rr rr (by omega) (by omega)<|c3 (j:=t250) (o':=0+((t182 - 8)*4+t250)) fh rr rr rr (by omega) (by omega)<|bk (j:=(t182 - 8)*4+t250) V 1 rr rr rr (by omega) bZ ?_
       refine aj rr rr<|a1 (j:=t250) fh rr rr rr (by omega)<|bk (j:=t250) V 0 rr rr rr (by omega) bZ<|cp .u8 (X:=(U ((t182 - 8)*4+t250))) (Y:=(I t250)) rr rr rr<|c3 (j:=t182) (o':=0+(t182*4)) oy rr rr rr (by omega) (by omega)<|c3 (j:=t250) (o':=0+(t182*4+t250)) fh rr rr rr (by omega) (by omega) ?_
       refine cr (j:=t182*4+t250) (X:=((U ((t182 - 8)*4+t250)) ^^^ (I t250))) V 1 rr rr rr rr (by omega) bJ rr fun m2 em=>?_
       simp only [ah,ai,aq,ar] at em
       refine aa.nil ?_
       refine bo ?_
       refine d9 _ _ ?_;clear d9
       refine ag 2 3 ?_
       refine bu (a:=t250) (b:=1) rr rr rr (by omega)<|aj rr rr<|aa.nil ?_
       exact bG ⟨_,d,(ab (ab (ab (ab (ab (ab (ab (ab au)))))))),em⟩
      ·
       replace d:=az d M
       refine aO (congrArg Value.bool (decide_eq_false M)) ?_
       refine W.exit (bM (bU (bL ?_)))
       exact ⟨U,(hw _ d).symm,(ab (ab (ab (ab (ab au))))),bt 6 [1,2,3,4,5] d6⟩
     ·
      rintro h1 m3 ⟨T,id,ii,io⟩
      obtain ⟨h1,rfl⟩:=ii.open
      subst id
      replace d:=hu
      refine bo ?_
      refine E _ _ ?_;clear E
      refine ag 2 3 ?_
      refine bu (a:=t182) (b:=1) rr rr rr (by omega)<|aj rr rr<|aa.nil ?_
      exact bG ⟨_,d,(ab (ab (ab (ab (ab au))))),io⟩
  ·
   replace d:=az d D
   refine aO (congrArg Value.bool (decide_eq_false D)) ?_
   refine W.exit (bM (bU (bL ?_)))
   exact ⟨f,(gd _ d).symm,(ab (ab au)),C⟩
 ·
  rintro ip m4 ⟨O,is,it,eq⟩
  obtain ⟨ip,rfl⟩:=it.open
  subst is
  replace d:=gc
  refine a4 _ _ ?_;clear a4
  refine ad fun _ es=>ag 2 3 ?_
  refine aP eq 0 rr rr rr Fk<|aj rr rr<|aa.fin es ?_;clear es
  obtain ⟨i0,i1,i2⟩:=d
  refine bq (fun e w=>∃Z:K8,i0=Z∧aU e []∧St B w0 (g8 g 0 240 Z::g8 g 240 256 h::g8 g 496 256 l::g8 g 752 256 o::L) w) ?_ ?_
  ·
   refine W.block ?_
   refine bS i1 (fun (ex:(Nat×K8)) e w=>aU e [(0,pt g 0),(123,AG [p8 240 A]),(124,VN ex.1)]∧St B w0 (g8 g 0 240 ex.2::g8 g 240 256 h::g8 g 496 256 l::g8 g 752 256 o::L) w) ⟨(ab (ab (ab au))),bt 5 [1,2,3,4] eq⟩ ?_
   rintro ⟨i,i3⟩ m5 d i4 i5 m6 ⟨i6,fd⟩
   obtain ⟨i5,rfl⟩:=i6.open
   unfold o9 at d
   refine ad fun _ fn=>ag 1 1 ?_
   refine aR (a:=(((i:Nat):Int):Int)) (b:=(60:Int)) (p:=i < 60) rr rr rr rr bW<|aa.fin fn ?_;clear fn
   refine ad fun _ f0=>?_
   by_cases N:i < 60
   ·
    replace d:=aA d N
    refine aG (congrArg Value.bool (decide_eq_true N)) ?_
    refine W.skip ?_
    refine f0 _ _ ?_;clear f0
    refine ad fun _ f1=>?_
    refine W.block ?_
    refine ad fun _ f2=>ag 5 11 ?_
    refine aj rr rr<|xK (j:=i) (sz:=4) Au uE rr rr rr (by omega) (by decide) ?_
    refine aa.alloc fd rr nY ae.nil fun m7 m8 m9 f3=>?_
    simp only [ao,Nat.zero_add,Nat.reduceAdd,ah,ai] at f3
    refine ak rr rr ?_
    refine aY (f':=fun q=>VU .u8 ((fun q=>A (i*4+q)) q)) f3 0 rr rr rr rr (fun _ _=>rr) p9 rr fun ne f4=>?_
    simp only [ah,ai,aq,ar] at f4
    refine aa.fin f2 ?_;clear f2
    refine bd a7 [1,3,5,7,9,11,13,15,17,19,21,22] ?_
    have i7:=f4.drew
    refine aD rr rr<|aj rr rr<|sg (a:=i) (b:=4) rr rr rr (by omega)<|aa.nilCheck rr rr<|bm tR rr rr<|c3 (j:=(i / 4)) (o':=0+((i / 4)*16)) x' rr rr rr (by omega) (by omega)<|aj rr rr<|iJ (a:=i) (b:=4) rr rr rr (by omega) ?_
    refine fr (a:=4) (b:=(i % 4)) rr rr rr (by omega) ?_
    obtain ⟨nl,d⟩:=d
    refine c8 (lo:=(4*(i % 4))) (hi:=16) (m:=(16 - (4*(i % 4)))) (c:=(16 - (4*(i % 4)))) (o':=0+((i / 4)*16+(4*(i % 4)))) e1 rr rr ⟨_,rr⟩ rr (by omega) (by omega) (by omega) (by omega)<|c8 (lo:=0) (hi:=4) (m:=4) (c:=4) (o':=0) fh rr rr rr rr (by omega) (by omega) (by omega) (by omega) ?_
    refine js (jd:=(i / 4)*16+(4*(i % 4))) (X:=(dl 4 (fun q=>A (i*4+q)))) i7 1 (min 4 (16 - (4*(i % 4)))) b4 rr rr rr rr ((bH (n:=4) (cc:=4) 0 rr (by omega) (by omega)).iK 1 rr) (fun _=>⟨_,rr,rr⟩) rr rr (by omega) (av.keep ae.nil) fun no f5=>?_
    simp only [ah,ai,aq,ar] at f5
    refine aa.nil ?_
    refine bo ?_
    refine f1 _ _ ?_;clear f1
    refine ag 2 3 ?_
    refine bu (a:=i) (b:=1) rr rr rr (by omega)<|aj rr rr<|aa.nil ?_
    exact bG ⟨_,d,(ab (ab (ab au))),bt 5 [1,2,3,4] f5⟩
   ·
    replace d:=az d N
    refine aO (congrArg Value.bool (decide_eq_false N)) ?_
    refine W.exit (bM (bU (bL ?_)))
    exact ⟨i3,(i4 _ d).symm,au,fd⟩
  ·
   rintro i8 n5 ⟨Z,i9,jp,kk⟩
   obtain ⟨i8,rfl⟩:=jp.open
   subst i9
   replace d:=i2
   refine lX ?_
   subst r
   refine ax.mk .nil ?_
   exact ⟨rr,kk⟩
theorem yX {B:Nat} {w0:aC} {w:World} {L:List Rg} {d:List af} {h:Option Addr} {i j E:Nat} (k:Bx L E h i j d) {r:Nat ⊕ (K8×K8×K8×K8×Nat)} (c:kl d r) (l:St B w0 (L) w):
  Calls Tryz.prog 101 #[.slice h i j] w fun e w'=>match r with | .inl z=>e= .returned (.tuple #[.pointer none,VN z])∧St B w0 (L) w' | .inr z=>∃f:Nat,e= .returned (.tuple #[pt f 0,VN z.2.2.2.2])∧St B w0 (g8 f 0 240 z.1::g8 f 240 256 z.2.1::g8 f 496 256 z.2.2.1::g8 f 752 256 z.2.2.2.1::L) w':=by
 refine W.enter 15 Tryz.func101 rr rr rr ?_
 unfold kl at c
 have F:=k.hl;subst F
 refine ad fun _ m=>ag 2 3 ?_
 refine cA rr rr<|ak rr rr<|aa.fin m ?_;clear m
 refine ad fun _ n=>ad fun _ o=>?_
 refine ag 3 7 ?_
 refine aE rr rr<|aa.len cB rr rr<|aR (a:=(((d.length:Nat):Int):Int)) (b:=(32:Int)) (p:=d.length≠32) rr rr rr rr cm<|aa.fin o ?_;clear o
 by_cases g:d.length≠32
 ·
  replace c:=aA c g
  refine aG (congrArg Value.bool (decide_eq_true g)) ?_
  refine ad fun _ q=>ag 2 3 ?_
  refine cA rr rr<|ak rr rr<|aa.fin q ?_;clear q
  refine W.ret (a' (aB ?_))
  subst r
  refine ax.mk (.fk rr (.bj rr .nil)) ?_
  exact ⟨rr,l⟩
 ·
  replace c:=az c g
  refine aO (congrArg Value.bool (decide_eq_false g)) ?_
  refine W.skip ?_
  refine n _ _ ?_;clear n
  refine ad fun _ s=>ag 4 10 ?_
  obtain ⟨t,u,v,G,c⟩:=c
  refine aw CF (Br G l) ?_
  rintro _ J ⟨rfl,x⟩
  refine ⟨_,rr,.inl ⟨ae.keep (by exact ae.nil) x,?_⟩⟩
  refine dt (ps:= [p8 240 (fun _=>0#8),p8 256 t,p8 256 u,p8 256 v]) Dy (by decide) Ap rr rr (.agg [p8 240 (fun _=>0#8)] [p8 256 (fun _=>0#8),p8 256 (fun _=>0#8),p8 256 (fun _=>0#8)] [] [p8 256 t,p8 256 u,p8 256 v] rr rr .nil) ?_
  refine bp x rr rr ae.nil fun H K M y=>?_
  simp only [ao,Nat.zero_add,Nat.reduceAdd,ah,ai] at y
  refine cA rr rr<|aa.fin s ?_;clear s
  refine ad fun _ A=>ag 3 3 ?_
  refine aD rr rr<|aE rr rr ?_
  obtain ⟨N,I,c⟩:=c
  refine aw CR (D' k I y) ?_
  rintro _ O ⟨rfl,C⟩
  refine ⟨_,rr,.inl ⟨ae.keep (by exact ae.nil) C,?_⟩⟩
  refine aa.fin A ?_;clear A
  refine ad fun _ D=>ag 3 7 ?_
  refine aD rr rr<|cA rr rr<|ak rr rr<|aa.fin D ?_;clear D
  refine W.ret (aB ?_)
  subst r
  refine ax.mk (.fk rr (.bj rr .nil)) ?_
  exact ⟨H,rr,C⟩
theorem vG {B:Nat} {w0:aC} {w:World} {L:List Rg} {c:Nat} {f i k l:K8} {h:Nat} {s7:K8} {g:Int} {r:K8} (d:nA f i k l s7 g r) (s:St B w0 (g8 c 0 240 f::g8 c 240 256 i::g8 c 496 256 k::g8 c 752 256 l::g8 h 0 16 s7::L) w):
  Calls Tryz.prog 137 #[pt c 0,pt h 0,.int .i64 g] w fun e w'=>e= .returned (.tuple #[])∧St B w0 (g8 c 0 240 f::g8 c 240 256 i::g8 c 496 256 k::g8 c 752 256 l::g8 h 0 16 r::L) w':=by
 refine W.enter 28 Tryz.func137 rr rr rr ?_
 unfold nA at d
 refine ad fun _ t=>ag 7 127 ?_
 refine aD rr rr<|aj rr rr<|aa.nilCheck rr rr<|bm tR rr rr ?_
 obtain ⟨D,d⟩:=d
 refine c3 (j:=g.toNat) (o':=0+(g.toNat*16)) x' rr rr (congrArg (Value.int .i64) (Int.toNat_of_nonneg D.1).symm) (by omega) (by omega)<|lf (m':=16) s 0 (g.toNat*16) rr rr rr rr (by omega) dq<|aj rr rr<|aa.fin t ?_;clear t
 obtain ⟨E,F,G⟩:=d
 refine bq (fun e w=>∃n:K8,E=n∧aU e []∧St B w0 (g8 c 0 240 f::g8 c 240 256 i::g8 c 496 256 k::g8 c 752 256 l::g8 h 0 16 n::L) w) ?_ ?_
 ·
  refine W.block ?_
  refine bS F (fun (u:(Nat×K8)) e w=>aU e [(1,pt h 0),(13,AG [(16,fun q=>VU .u8 ((fun q=>f ((g.toNat*16)+q)) q))]),(14,VN u.1)]∧St B w0 (g8 c 0 240 f::g8 c 240 256 i::g8 c 496 256 k::g8 c 752 256 l::g8 h 0 16 u.2::L) w) ⟨(ab (ab (ab au))),s⟩ ?_
  rintro ⟨t26,o⟩ P d H I Q ⟨J,h30⟩
  obtain ⟨I,rfl⟩:=J.open
  unfold oM at d
  refine ad fun _ v=>ag 1 1 ?_
  refine aR (a:=(((t26:Nat):Int):Int)) (b:=(16:Int)) (p:=t26 < 16) rr rr rr rr bW<|aa.fin v ?_;clear v
  refine ad fun _ x=>?_
  by_cases m:t26 < 16
  ·
   replace d:=aA d m
   refine aG (congrArg Value.bool (decide_eq_true m)) ?_
   refine W.skip ?_
   refine x _ _ ?_;clear x
   refine ad fun _ y=>?_
   refine W.block ?_
   refine ad fun _ z=>ag 4 15 ?_
   refine aj rr rr<|rz (j:=t26) r5 bJ bZ rr rr rr (by omega) (by decide)<|ak rr rr<|ak rr rr<|aa.fin z ?_;clear z
   refine bd a7 [1,3,5,7,9,11,13,15,17,18] ?_
   have A:=h30.drew
   refine aD rr rr<|aj rr rr<|aa.nilCheck rr rr<|a1 (j:=t26) e1 rr rr rr (by omega)<|bk (j:=t26) A 4 rr rr rr (by omega) bZ<|aj rr rr ?_
   refine cp .u8 (X:=(o t26)) (Y:=((fun q=>f ((g.toNat*16)+q)) t26)) rr rr rr ?_
   refine aa.nilCheck rr rr<|a1 (j:=t26) e1 rr rr rr (by omega) ?_
   refine cr (j:=t26) (X:=((o t26) ^^^ ((fun q=>f ((g.toNat*16)+q)) t26))) A 4 rr rr rr rr (by omega) bJ rr fun R C=>?_
   simp only [ah,ai,aq,ar] at C
   refine aa.nil ?_
   refine bo ?_
   refine y _ _ ?_;clear y
   refine ag 2 3 ?_
   refine bu (a:=t26) (b:=1) rr rr rr (by omega)<|aj rr rr<|aa.nil ?_
   exact bG ⟨_,d,(ab (ab (ab au))),C⟩
  ·
   replace d:=az d m
   refine aO (congrArg Value.bool (decide_eq_false m)) ?_
   refine W.exit (bM (bU (bL ?_)))
   exact ⟨o,(H _ d).symm,au,h30⟩
 ·
  rintro K S ⟨n,M,N,O⟩
  obtain ⟨K,rfl⟩:=N.open
  subst M
  replace d:=G
  refine lX ?_
  subst r
  refine ax.mk .nil ?_
  exact ⟨rr,O⟩
theorem AO {B:Nat} {w0:aC} {w:World} {L:List Rg} {g:Nat} {k l m h:K8} {i:Nat} {s7 r:K8} (f:qm k l m h s7 r) (P:St B w0 (g8 g 0 240 k::g8 g 240 256 l::g8 g 496 256 m::g8 g 752 256 h::g8 i 0 16 s7::L) w):
  Calls Tryz.prog 138 #[pt g 0,pt i 0] w fun e w'=>e= .returned (.tuple #[])∧St B w0 (g8 g 0 240 k::g8 g 240 256 l::g8 g 496 256 m::g8 g 752 256 h::g8 i 0 16 r::L) w':=by
 refine W.enter 112 Tryz.func138 rr rr rr ?_
 unfold qm at f
 refine ad fun _ s=>ag 5 31 ?_
 refine aD rr rr<|aa.nilCheck rr rr<|aa.fieldAddr 240 hC rr rr<|aa.fieldAddr 512 wK rr rr<|cA rr rr<|aa.fin s ?_;clear s
 refine ad fun _ t=>ag 1 1 ?_
 refine ak rr rr<|aa.fin t ?_;clear t
 obtain ⟨Q,R,S⟩:=f
 refine bq (fun e w=>∃q:K8,Q=q∧aU e []∧St B w0 (g8 g 0 240 k::g8 g 240 256 l::g8 g 496 256 m::g8 g 752 256 h::g8 i 0 16 q::L) w) ?_ ?_
 ·
  refine W.block ?_
  refine bS R (fun (u:(Nat×K8)) e w=>aU e [(1,pt i 0),(4,pt g 752),(5,VN u.1)]∧St B w0 (g8 g 0 240 k::g8 g 240 256 l::g8 g 496 256 m::g8 g 752 256 h::g8 i 0 16 u.2::L) w) ⟨(ab (ab (ab au))),P⟩ ?_
  rintro ⟨c,d⟩ bi f T U bv ⟨V,v⟩
  obtain ⟨U,rfl⟩:=V.open
  unfold nU at f
  refine ad fun _ x=>ad fun _ y=>?_
  refine ag 2 3 ?_
  refine aj rr rr<|aR (a:=(((c:Nat):Int):Int)) (b:=(16:Int)) (p:=c < 16) rr rr rr rr bW<|aa.fin y ?_;clear y
  by_cases o:c < 16
  ·
   replace f:=aA f o
   refine aG (congrArg Value.bool (decide_eq_true o)) ?_
   refine W.skip ?_
   refine x _ _ ?_;clear x
   refine ad fun _ z=>?_
   refine W.block ?_
   refine ad fun _ A=>?_
   refine bd a7 [1,3,5,7,9,11,13,15,17,19,21,23,25,27,29,31,33,35,37,39,41,43,45,47,49,51,53] ?_
   have n:=v.drew
   refine aD rr rr<|aj rr rr<|aa.nilCheck rr rr<|a1 (j:=c) e1 rr rr rr (by omega)<|bk (j:=c) n 4 rr rr rr (by omega) bZ<|aD rr rr<|aj rr rr<|bu (a:=c) (b:=1) rr rr rr (by omega) ?_
   refine aa.nilCheck rr rr ?_
   obtain ⟨Z,f⟩:=f
   refine a1 (j:=(c+1)) e1 rr rr rr Z<|bk (j:=(c+1)) n 4 rr rr rr (by omega) bZ<|aD rr rr<|aj rr rr<|bu (a:=c) (b:=2) rr rr rr (by omega)<|aa.nilCheck rr rr ?_
   obtain ⟨am,f⟩:=f
   refine a1 (j:=(c+2)) e1 rr rr rr am<|bk (j:=(c+2)) n 4 rr rr rr (by omega) bZ<|aD rr rr<|aj rr rr<|bu (a:=c) (b:=3) rr rr rr (by omega)<|aa.nilCheck rr rr ?_
   obtain ⟨ap,f⟩:=f
   refine a1 (j:=(c+3)) e1 rr rr rr ap<|bk (j:=(c+3)) n 4 rr rr rr (by omega) bZ<|ak rr rr<|ak rr rr<|ak rr rr<|ak rr rr<|aa.fin A ?_;clear A
   refine ad fun _ C=>ag 8 255 ?_
   refine aj rr rr<|aj rr rr<|cp .u8 (X:=(d c)) (Y:=(d (c+1))) rr rr rr<|aj rr rr<|cp .u8 (X:=((d c) ^^^ (d (c+1)))) (Y:=(d (c+2))) rr rr rr<|aj rr rr<|cp .u8 (X:=(((d c) ^^^ (d (c+1))) ^^^ (d (c+2)))) (Y:=(d (c+3))) rr rr rr<|ak rr rr ?_
   refine aa.fin C ?_;clear C
   refine ad fun _ D=>?_
   refine bd a7 [1,3,5,7,9,11,13,15,17,19,21,23,25,27,29,30] ?_
   have E:=n.drew
   refine aD rr rr<|aj rr rr<|aj rr rr<|aj rr rr<|cp .u8 (X:=(d c)) (Y:=((((d c) ^^^ (d (c+1))) ^^^ (d (c+2))) ^^^ (d (c+3)))) rr rr rr<|aD rr rr<|aj rr rr<|aj rr rr ?_
   refine cp .u8 (X:=(d c)) (Y:=(d (c+1))) rr rr rr<|aa.nilCheck rr rr<|a1 (j:=((d c) ^^^ (d (c+1))).toNat) eW rr rr rr ((d c) ^^^ (d (c+1))).isLt<|bk (j:=((d c) ^^^ (d (c+1))).toNat) E 3 rr rr rr (by omega) bZ<|cp .u8 (X:=((d c) ^^^ ((((d c) ^^^ (d (c+1))) ^^^ (d (c+2))) ^^^ (d (c+3))))) (Y:=(h (((d c) ^^^ (d (c+1))).toNat))) rr rr rr<|aa.nilCheck rr rr<|a1 (j:=c) e1 rr rr rr (by omega) ?_
   refine cr (j:=c) (X:=(((d c) ^^^ ((((d c) ^^^ (d (c+1))) ^^^ (d (c+2))) ^^^ (d (c+3)))) ^^^ (h (((d c) ^^^ (d (c+1))).toNat)))) E 4 rr rr rr rr (by omega) bJ rr fun cc F=>?_
   simp only [ah,ai,aq,ar] at F
   refine aa.fin D ?_;clear D
   refine ad fun _ G=>?_
   refine bd a7 [1,3,5,7,9,11,13,15,17,19,21,23,25,27,29,31,32] ?_
   have H:=F.drew
   refine aD rr rr<|aj rr rr<|bu (a:=c) (b:=1) rr rr rr (by omega)<|aj rr rr<|aj rr rr<|cp .u8 (X:=(d (c+1))) (Y:=((((d c) ^^^ (d (c+1))) ^^^ (d (c+2))) ^^^ (d (c+3)))) rr rr rr<|aD rr rr<|aj rr rr ?_
   refine aj rr rr<|cp .u8 (X:=(d (c+1))) (Y:=(d (c+2))) rr rr rr<|aa.nilCheck rr rr<|a1 (j:=((d (c+1)) ^^^ (d (c+2))).toNat) eW rr rr rr ((d (c+1)) ^^^ (d (c+2))).isLt<|bk (j:=((d (c+1)) ^^^ (d (c+2))).toNat) H 3 rr rr rr (by omega) bZ<|cp .u8 (X:=((d (c+1)) ^^^ ((((d c) ^^^ (d (c+1))) ^^^ (d (c+2))) ^^^ (d (c+3))))) (Y:=(h (((d (c+1)) ^^^ (d (c+2))).toNat))) rr rr rr<|aa.nilCheck rr rr ?_
   obtain ⟨a0,f⟩:=f
   refine a1 (j:=(c+1)) e1 rr rr rr a0 ?_
   refine cr (j:=(c+1)) (X:=(((d (c+1)) ^^^ ((((d c) ^^^ (d (c+1))) ^^^ (d (c+2))) ^^^ (d (c+3)))) ^^^ (h (((d (c+1)) ^^^ (d (c+2))).toNat)))) H 4 rr rr rr rr (by omega) bJ rr fun cd I=>?_
   simp only [ah,ai,aq,ar] at I
   refine aa.fin G ?_;clear G
   refine ad fun _ J=>?_
   refine bd a7 [1,3,5,7,9,11,13,15,17,19,21,23,25,27,29,31,32] ?_
   have K:=I.drew
   refine aD rr rr<|aj rr rr<|bu (a:=c) (b:=2) rr rr rr (by omega)<|aj rr rr<|aj rr rr<|cp .u8 (X:=(d (c+2))) (Y:=((((d c) ^^^ (d (c+1))) ^^^ (d (c+2))) ^^^ (d (c+3)))) rr rr rr<|aD rr rr<|aj rr rr ?_
   refine aj rr rr<|cp .u8 (X:=(d (c+2))) (Y:=(d (c+3))) rr rr rr<|aa.nilCheck rr rr<|a1 (j:=((d (c+2)) ^^^ (d (c+3))).toNat) eW rr rr rr ((d (c+2)) ^^^ (d (c+3))).isLt<|bk (j:=((d (c+2)) ^^^ (d (c+3))).toNat) K 3 rr rr rr (by omega) bZ<|cp .u8 (X:=((d (c+2)) ^^^ ((((d c) ^^^ (d (c+1))) ^^^ (d (c+2))) ^^^ (d (c+3))))) (Y:=(h (((d (c+2)) ^^^ (d (c+3))).toNat))) rr rr rr<|aa.nilCheck rr rr ?_
   obtain ⟨a2,f⟩:=f
   refine a1 (j:=(c+2)) e1 rr rr rr a2 ?_
   refine cr (j:=(c+2)) (X:=(((d (c+2)) ^^^ ((((d c) ^^^ (d (c+1))) ^^^ (d (c+2))) ^^^ (d (c+3)))) ^^^ (h (((d (c+2)) ^^^ (d (c+3))).toNat)))) K 4 rr rr rr rr (by omega) bJ rr fun ce M=>?_
   simp only [ah,ai,aq,ar] at M
   refine aa.fin J ?_;clear J
   refine bd a7 [1,3,5,7,9,11,13,15,17,19,21,23,25,27,29,31,32] ?_
   have N:=M.drew
   refine aD rr rr<|aj rr rr<|bu (a:=c) (b:=3) rr rr rr (by omega)<|aj rr rr<|aj rr rr<|cp .u8 (X:=(d (c+3))) (Y:=((((d c) ^^^ (d (c+1))) ^^^ (d (c+2))) ^^^ (d (c+3)))) rr rr rr<|aD rr rr<|aj rr rr ?_
   refine aj rr rr<|cp .u8 (X:=(d (c+3))) (Y:=(d c)) rr rr rr<|aa.nilCheck rr rr<|a1 (j:=((d (c+3)) ^^^ (d c)).toNat) eW rr rr rr ((d (c+3)) ^^^ (d c)).isLt<|bk (j:=((d (c+3)) ^^^ (d c)).toNat) N 3 rr rr rr (by omega) bZ<|cp .u8 (X:=((d (c+3)) ^^^ ((((d c) ^^^ (d (c+1))) ^^^ (d (c+2))) ^^^ (d (c+3))))) (Y:=(h (((d (c+3)) ^^^ (d c)).toNat))) rr rr rr<|aa.nilCheck rr rr ?_
   obtain ⟨a3,f⟩:=f
   refine a1 (j:=(c+3)) e1 rr rr rr a3 ?_
   refine cr (j:=(c+3)) (X:=(((d (c+3)) ^^^ ((((d c) ^^^ (d (c+1))) ^^^ (d (c+2))) ^^^ (d (c+3)))) ^^^ (h (((d (c+3)) ^^^ (d c)).toNat)))) N 4 rr rr rr rr (by omega) bJ rr fun ci O=>?_
   simp only [ah,ai,aq,ar] at O
   refine aa.nil ?_
   refine bo ?_
   refine z _ _ ?_;clear z
   refine ag 3 7 ?_
   refine aj rr rr<|bu (a:=c) (b:=4) rr rr rr (by omega)<|ak rr rr<|aa.nil ?_
   exact bG ⟨_,f,(ab (ab (ab au))),O⟩
  ·
   replace f:=az f o
   refine aO (congrArg Value.bool (decide_eq_false o)) ?_
   refine W.exit (bM (bU (bL ?_)))
   exact ⟨d,(T _ f).symm,au,v⟩
 ·
  rintro a4 cl ⟨q,a5,a9,be⟩
  obtain ⟨a4,rfl⟩:=a9.open
  subst a5
  replace f:=S
  refine lX ?_
  subst r
  refine ax.mk .nil ?_
  exact ⟨rr,be⟩
theorem BN {B:Nat} {w0:aC} {w:World} {L:List Rg} {d:Nat} {k i l m v r:K8} (c:qg k i l m v r) (d2:St B w0 (g8 d 0 240 k::g8 d 240 256 i::g8 d 496 256 l::g8 d 752 256 m::L) w):
  Calls Tryz.prog 102 #[pt d 0,AG [p8 16 v]] w fun e w'=>e= .returned (AG [p8 16 r])∧St B w0 (g8 d 0 240 k::g8 d 240 256 i::g8 d 496 256 l::g8 d 752 256 m::L) w':=by
 refine W.enter 45 Tryz.func102 rr rr rr ?_
 unfold qg at c
 refine ad fun _ F=>ag 2 0 ?_
 refine bp d2 rr rr ae.nil fun ge go gs G=>?_
 simp only [ao,Nat.zero_add,Nat.reduceAdd,ah,ai] at G
 refine aa.alloc G rr fX ae.nil fun f gt g0 x=>?_
 simp only [ao,Nat.zero_add,Nat.reduceAdd,ah,ai] at x
 refine aa.fin F ?_;clear F
 refine ad fun _ H=>ag 3 1 ?_
 refine aP x 1 rr rr rr dq ?_
 refine aa.alloc x rr fX (ae.cons 1 rr ae.nil) fun g g1 g2 I=>?_
 simp only [ao,Nat.zero_add,Nat.reduceAdd,ah,ai] at I
 refine aY (f':=fun q=>VU .u8 (v q)) I 0 rr rr rr rr (fun _ _=>rr) eI rr fun g3 J=>?_
 simp only [ah,ai,aq,ar] at J
 refine aa.fin H ?_;clear H
 refine ad fun _ K=>ag 2 1 ?_
 refine aD rr rr ?_
 have M:=St.aF (C:= [_,_,_,_,_,_,_]) J [3,4,5,6,0,1,2] (by decide)
 simp only [pick,aL,aK,aM,aJ,ah,ai] at M
 obtain ⟨g4,d3,c⟩:=c
 refine aw wq (vG d3 M) ?_
 rintro _ g5 ⟨rfl,N⟩
 refine ⟨_,rr,.inl ⟨ae.keep (by exact ae.nil) N,?_⟩⟩
 refine aa.fin K ?_;clear K
 refine ad fun _ O=>ad fun _ P=>?_
 refine ag 1 1 ?_
 refine ak rr rr<|aa.fin P ?_;clear P
 obtain ⟨Q,d4,d5⟩:=c
 refine bq (fun e w=>∃y:K8,Q=y∧aU e [(4,pt f 0),(5,pt g 0)]∧St B w0 (g8 d 0 240 k::g8 d 240 256 i::g8 d 496 256 l::g8 d 752 256 m::g8 g 0 16 y::g8 f 0 16 (fun _=>0#8)::L) w) ?_ ?_
 ·
  refine W.block ?_
  refine bS d4 (fun (R:(Nat×K8)) e w=>aU e [(0,pt d 0),(4,pt f 0),(5,pt g 0),(6,VN R.1)]∧St B w0 (g8 d 0 240 k::g8 d 240 256 i::g8 d 496 256 l::g8 d 752 256 m::g8 g 0 16 R.2::g8 f 0 16 (fun _=>0#8)::L) w) ⟨(ab (ab (ab (ab au)))),bt 7 [0,1,2,3,4,5] N⟩ ?_
  rintro ⟨h,n⟩ g6 c d6 d7 g7 ⟨d8,S⟩
  obtain ⟨d7,rfl⟩:=d8.open
  unfold oG at c
  refine ad fun _ T=>ad fun _ U=>?_
  refine ag 2 3 ?_
  refine aj rr rr<|aR (a:=(((h:Nat):Int):Int)) (b:=(14:Int)) (p:=h≤14) rr rr rr rr xi<|aa.fin U ?_;clear U
  by_cases s:h≤14
  ·
   replace c:=aA c s
   refine aG (congrArg Value.bool (decide_eq_true s)) ?_
   refine W.skip ?_
   refine T _ _ ?_;clear T
   refine ad fun _ V=>?_
   refine W.block ?_
   refine ad fun _ Y=>ag 1 0 ?_
   refine aa.alloc S rr fX ae.nil fun o g9 he Z=>?_
   simp only [ao,Nat.zero_add,Nat.reduceAdd,ah,ai] at Z
   refine aa.fin Y ?_;clear Y
   refine ad fun _ am=>ad fun _ ap=>?_
   refine ag 1 1 ?_
   refine aj rr rr<|aa.fin ap ?_;clear ap
   obtain ⟨a0,d9,el⟩:=c
   refine bq (fun e w=>∃z:K8,a0=z∧aU e [(0,pt d 0),(4,pt f 0),(5,pt g 0),(6,VN h),(7,pt o 0)]∧St B w0 (g8 o 0 16 z::g8 d 0 240 k::g8 d 240 256 i::g8 d 496 256 l::g8 d 752 256 m::g8 g 0 16 n::g8 f 0 16 (fun _=>0#8)::L) w) ?_ ?_
   ·
    refine W.block ?_
    refine bS d9 (fun (a2:(Nat×K8)) e w=>aU e [(0,pt d 0),(4,pt f 0),(5,pt g 0),(6,VN h),(7,pt o 0),(16,VN a2.1)]∧St B w0 (g8 o 0 16 a2.2::g8 d 0 240 k::g8 d 240 256 i::g8 d 496 256 l::g8 d 752 256 m::g8 g 0 16 n::g8 f 0 16 (fun _=>0#8)::L) w) ⟨(ab (ab (ab (ab (ab (ab au)))))),Z⟩ ?_
    rintro ⟨t162,em⟩ hi c eq es hk ⟨ex,a3⟩
    obtain ⟨es,rfl⟩:=ex.open
    unfold mw at c
    refine ad fun _ a4=>ag 1 1 ?_
    refine aR (a:=(((t162:Nat):Int):Int)) (b:=(16:Int)) (p:=t162 < 16) rr rr rr rr bW<|aa.fin a4 ?_;clear a4
    refine ad fun _ a5=>?_
    by_cases t:t162 < 16
    ·
     replace c:=aA c t
     refine aG (congrArg Value.bool (decide_eq_true t)) ?_
     refine W.skip ?_
     refine a5 _ _ ?_;clear a5
     refine ad fun _ a9=>?_
     refine W.block ?_
     refine ad fun _ be=>ag 2 3 ?_
     refine aj rr rr<|ak rr rr<|aa.fin be ?_;clear be
     refine bd a7 [1,3,5,7,9,11,13,15,17,19,21,23,25,27,29,31,32] ?_
     have A:=a3.drew
     refine aj rr rr<|aD rr rr<|aj rr rr<|aj rr rr<|iJ (a:=t162) (b:=4) rr rr rr (by omega)<|fr (a:=4) (b:=(t162 % 4)) rr rr rr (by omega)<|bu (a:=t162) (b:=(4*(t162 % 4))) rr rr rr (by omega)<|iJ (a:=(t162+(4*(t162 % 4)))) (b:=16) rr rr rr (by omega) ?_
     refine a1 (j:=((t162+(4*(t162 % 4))) % 16)) e1 rr rr rr (by omega)<|bk (j:=((t162+(4*(t162 % 4))) % 16)) A 5 rr rr rr (by omega) bZ<|aa.nilCheck rr rr<|aa.fieldAddr 240 hC rr rr<|bm hd rr rr<|a1 (j:=(n ((t162+(4*(t162 % 4))) % 16)).toNat) eW rr rr rr (n ((t162+(4*(t162 % 4))) % 16)).isLt<|bk (j:=(n ((t162+(4*(t162 % 4))) % 16)).toNat) A 2 rr rr rr (by omega) bZ<|a1 (j:=t162) e1 rr rr rr (by omega) ?_
     refine cr (j:=t162) (X:=(i ((n ((t162+(4*(t162 % 4))) % 16)).toNat))) A 0 rr rr rr rr (by omega) bJ rr fun hm bi=>?_
     simp only [ah,ai,aq,ar] at bi
     refine aa.nil ?_
     refine bo ?_
     refine a9 _ _ ?_;clear a9
     refine ag 2 3 ?_
     refine bu (a:=t162) (b:=1) rr rr rr (by omega)<|aj rr rr<|aa.nil ?_
     exact bG ⟨_,c,(ab (ab (ab (ab (ab (ab au)))))),bi⟩
    ·
     replace c:=az c t
     refine aO (congrArg Value.bool (decide_eq_false t)) ?_
     refine W.exit (bM (bU (bL ?_)))
     exact ⟨em,(eq _ c).symm,(ab (ab (ab (ab (ab au))))),a3⟩
   ·
    rintro fd hu ⟨z,fn,f0,bv⟩
    obtain ⟨fd,rfl⟩:=f0.open
    subst fn
    replace c:=el
    refine am _ _ ?_;clear am
    refine ad fun _ cc=>?_
    obtain ⟨cd,f1,f2⟩:=c
    refine bq (fun e w=>∃D:K8,(cd=D)∧aU e [(0,pt d 0),(4,pt f 0),(5,pt g 0),(6,VN h),(7,pt o 0)]∧St B w0 (g8 d 0 240 k::g8 d 240 256 i::g8 d 496 256 l::g8 d 752 256 m::g8 o 0 16 D::g8 g 0 16 n::g8 f 0 16 (fun _=>0#8)::L) w) ?_ ?_
    ·
     replace c:=f1
     refine ad fun _ ce=>ag 2 3 ?_
     refine aj rr rr<|aR (a:=(((h:Nat):Int):Int)) (b:=(14:Int)) (p:=h < 14) rr rr rr rr bW<|aa.fin ce ?_;clear ce
     by_cases u:h < 14
     ·
      replace c:=aA c u
      refine aG (congrArg Value.bool (decide_eq_true u)) ?_
      refine ag 2 1 ?_
      refine aD rr rr ?_
      have ci:=St.aF (C:= [_,_,_,_,_,_,_]) bv [1,2,3,4,0,5,6] (by decide)
      simp only [pick,aL,aK,aM,aJ,ah,ai] at ci
      obtain ⟨f3,f4,c⟩:=c
      refine aw D9 (AO f4 ci) ?_
      rintro _ hw ⟨rfl,cl⟩
      refine ⟨_,rr,.inl ⟨ae.keep (by exact ae.nil) cl,?_⟩⟩
      refine aa.nil ?_
      exact ⟨f3,c,(ab (ab (ab (ab (ab au))))),cl⟩
     ·
      replace c:=az c u
      refine aO (congrArg Value.bool (decide_eq_false u)) ?_
      refine W.skip ?_
      exact ⟨a0,c,(ab (ab (ab (ab (ab au))))),bt 7 [1,2,3,4,0,5,6] bv⟩
    ·
     rintro f5 hH ⟨D,f6,f7,co⟩
     subst f6
     obtain ⟨f5,rfl⟩:=f7.open
     replace c:=f2
     refine cc _ _ ?_;clear cc
     refine ad fun _ cs=>ag 2 1 ?_
     refine aP co 4 rr rr rr dq ?_
     refine aY (f':=fun q=>VU .u8 (cd q)) co 5 rr rr rr rr (fun _ _=>rr) eI rr fun hO c1=>?_
     simp only [ah,ai,aq,ar] at c1
     refine aa.fin cs ?_;clear cs
     refine ag 3 3 ?_
     refine aD rr rr<|aj rr rr ?_
     have c2:=St.aF (C:= [_,_,_,_,_,_,_]) c1 [0,1,2,3,5,4,6] (by decide)
     simp only [pick,aL,aK,aM,aJ,ah,ai] at c2
     obtain ⟨h1,f8,c⟩:=c
     refine aw wq (vG f8 c2) ?_
     rintro _ id ⟨rfl,dl⟩
     refine ⟨_,rr,.inl ⟨ae.keep (by exact ae.nil) dl,?_⟩⟩
     refine aa.nil ?_
     refine bo ?_
     refine V _ _ ?_;clear V
     refine ag 3 7 ?_
     refine aj rr rr<|bu (a:=h) (b:=1) rr rr rr (by omega)<|ak rr rr<|aa.nil ?_
     exact bG ⟨_,c,(ab (ab (ab (ab au)))),bt 7 [0,1,2,3,4,6] dl⟩
  ·
   replace c:=az c s
   refine aO (congrArg Value.bool (decide_eq_false s)) ?_
   refine W.exit (bM (bU (bL ?_)))
   exact ⟨n,(d6 _ c).symm,(ab (ab au)),S⟩
 ·
  rintro f9 ii ⟨y,gc,gd,ds⟩
  obtain ⟨f9,rfl⟩:=gd.open
  subst gc
  replace c:=d5
  refine O _ _ ?_;clear O
  refine ad fun _ d0=>ag 2 1 ?_
  refine aP ds 4 rr rr rr dq ?_
  refine aY (f':=fun q=>VU .u8 (Q q)) ds 5 rr rr rr rr (fun _ _=>rr) eI rr fun io E=>?_
  simp only [ah,ai,aq,ar] at E
  refine aa.fin d0 ?_;clear d0
  refine W.ret (aB ?_)
  have d1:=St.aF (C:= [_,_,_,_,_,_]) E [0,1,2,3] (by decide)
  simp only [pick,aL,aK,aM,aJ,ah,ai] at d1
  subst r
  refine ax.mk (.agg E rr (.cons 5 rr .nil) dq .nil) ?_
  exact ⟨rr,d1⟩
theorem z_ {B:Nat} {w0:aC} {w:World} {L:List Rg} {u:K8} {v:BitVec 64} {r:K8} (d:pA u v r) (R:St B w0 (L) w):
  Calls Tryz.prog 103 #[AG [p8 16 u],VU .u64 v] w fun e w'=>e= .returned (AG [p8 16 r])∧St B w0 (L) w':=by
 refine W.enter 30 Tryz.func103 rr rr rr ?_
 unfold pA at d
 refine ad fun _ x=>ag 2 0 ?_
 refine bp R rr rr ae.nil fun i a4 a5 y=>?_
 simp only [ao,Nat.zero_add,Nat.reduceAdd,ah,ai] at y
 refine aa.alloc y rr fX ae.nil fun k a9 be z=>?_
 simp only [ao,Nat.zero_add,Nat.reduceAdd,ah,ai] at z
 refine aa.fin x ?_;clear x
 refine ad fun _ A=>ag 1 1 ?_
 refine ak rr rr<|aa.fin A ?_;clear A
 refine ad fun _ D=>ad fun _ E=>?_
 refine ag 1 1 ?_
 refine ak rr rr<|aa.fin E ?_;clear E
 obtain ⟨F,S,T⟩:=d
 refine bq (fun e w=>∃o:K8,F=o∧aU e [(2,pt i 0),(4,pt k 0)]∧St B w0 (g8 k 0 16 (fun _=>0#8)::g8 i 0 16 o::L) w) ?_ ?_
 ·
  refine W.block ?_
  refine bS S (fun (l:((BitVec 64)×(BitVec 64)×Int×K8)) e w=>aU e [(1,VU .u64 l.1),(2,pt i 0),(4,pt k 0),(5,VU .u64 l.2.1),(6,.int .i64 l.2.2.1)]∧St B w0 (g8 k 0 16 (fun _=>0#8)::g8 i 0 16 l.2.2.2::L) w) ⟨(ab (ab (ab (ab (ab au))))),z⟩ ?_
  rintro ⟨g,m,f,h⟩ bi d U V bv ⟨Z,s⟩
  obtain ⟨V,rfl⟩:=Z.open
  unfold n4 at d
  refine ad fun _ G=>ad fun _ H=>?_
  refine ag 2 3 ?_
  refine aj rr rr<|aR (a:=(f:Int)) (b:=(0:Int)) (p:=0≤f) rr rr rr rr mo<|aa.fin H ?_;clear H
  by_cases n:0≤f
  ·
   replace d:=aA d n
   refine aG (congrArg Value.bool (decide_eq_true n)) ?_
   refine W.skip ?_
   refine G _ _ ?_;clear G
   refine ad fun _ I=>?_
   refine W.block ?_
   refine ad fun _ J=>ag 10 1023 ?_
   refine aj rr rr ?_
   obtain ⟨am,d⟩:=d
   refine a1 (j:=f.toNat) e1 rr rr (congrArg (Value.int .i64) (Int.toNat_of_nonneg am.1).symm) (by omega)<|bk (j:=f.toNat) s 1 rr rr rr (by omega) bZ<|dU .u64 (X:=(h f.toNat)) lD jl rr rr<|aj rr rr<|dx .u64 (X:=g) (Y:=255#64) rr rr rr<|cD .u64 (X:=((h f.toNat).setWidth 64)) (Y:=(g &&& (255#64))) rr rr rr<|aj rr rr<|cD .u64 (X:=(((h f.toNat).setWidth 64)+(g &&& (255#64)))) (Y:=m) rr rr rr ?_
   refine ak rr rr<|aa.fin J ?_;clear J
   refine ad fun _ K=>ag 5 15 ?_
   refine aj rr rr<|aj rr rr<|dU .u8 (X:=((((h f.toNat).setWidth 64)+(g &&& (255#64)))+m)) cw p3 rr rr ?_
   obtain ⟨ap,d⟩:=d
   refine a1 (j:=f.toNat) e1 rr rr (congrArg (Value.int .i64) (Int.toNat_of_nonneg ap.1).symm) (by omega) ?_
   refine cr (j:=f.toNat) (X:=(((((h f.toNat).setWidth 64)+(g &&& (255#64)))+m).setWidth 8)) s 1 rr rr rr rr (by omega) bJ rr fun cc M=>?_
   simp only [ah,ai,aq,ar] at M
   refine aa.fin K ?_;clear K
   refine ad fun _ N=>ag 3 7 ?_
   refine aj rr rr<|cJ .u64 (X:=((((h f.toNat).setWidth 64)+(g &&& (255#64)))+m)) (c:=8) rr rr rr<|ak rr rr<|aa.fin N ?_;clear N
   refine ag 3 7 ?_
   refine aj rr rr<|cJ .u64 (X:=g) (c:=8) rr rr rr<|ak rr rr<|aa.nil ?_
   refine bo ?_
   refine I _ _ ?_;clear I
   refine ag 3 7 ?_
   refine aj rr rr ?_
   obtain ⟨cd,d⟩:=d
   refine d' (a:=f) (b:=1) rr rr rr (by omega)<|ak rr rr<|aa.nil ?_
   exact bG ⟨_,d,(ab (ab (ab (ab (ab au))))),M⟩
  ·
   replace d:=az d n
   refine aO (congrArg Value.bool (decide_eq_false n)) ?_
   refine W.exit (bM (bU (bL ?_)))
   exact ⟨h,(U _ d).symm,(ab (ab au)),s⟩
 ·
  rintro a0 ce ⟨o,a2,a3,O⟩
  obtain ⟨a0,rfl⟩:=a3.open
  subst a2
  replace d:=T
  refine D _ _ ?_;clear D
  refine ad fun _ P=>ag 2 1 ?_
  refine aP O 1 rr rr rr dq ?_
  refine aY (f':=fun q=>VU .u8 (F q)) O 0 rr rr rr rr (fun _ _=>rr) eI rr fun ci t=>?_
  simp only [ah,ai,aq,ar] at t
  refine aa.fin P ?_;clear P
  refine W.ret (aB ?_)
  have Q:=St.aF (C:= [_,_]) t [] (by decide)
  simp only [pick,aL,aK,aM,aJ,ah,ai] at Q
  subst r
  refine ax.mk (.agg t rr (.cons 0 rr .nil) dq .nil) ?_
  exact ⟨rr,Q⟩
theorem wz {B:Nat} {w0:aC} {w:World} {L:List Rg} {d:Nat} {h i k l V:K8} {f:List af} {Z:Option Addr} {am ap fd:Nat} (a0:Bx L fd Z am ap f) {r:(List af)} (c:l4 h i k l V f r) (fn:St B w0 (g8 d 0 240 h::g8 d 240 256 i::g8 d 496 256 k::g8 d 752 256 l::L) w):
  Calls Tryz.prog 74 #[pt d 0,AG [p8 16 V],.slice Z am ap] w fun e w'=>∃a2:Option Addr,∃a3:Option Nat,∃a4 Q:Nat,∃a5:Nat→af,e= .returned (.slice a2 a4 Q)∧St B w0 (gO a3 Q a5::g8 d 0 240 h::g8 d 240 256 i::g8 d 496 256 k::g8 d 752 256 l::L) w'∧Ow a2 a3 a4 Q a5 r:=by
 refine W.enter 45 Tryz.func74 rr rr rr ?_
 unfold l4 at c
 have f0:=a0.hl;subst f0
 refine ad fun _ a9=>ag 2 2 ?_
 refine bp fn rr rr ae.nil fun m io ip be=>?_
 simp only [ao,Nat.zero_add,Nat.reduceAdd,ah,ai] at be
 refine aV rr rr<|aa.fin a9 ?_;clear a9
 refine ad fun _ bi=>ag 3 5 ?_
 refine aE rr rr ?_
 have f1:=be.cN
 obtain ⟨f2,c⟩:=c
 refine kS (X:=([]:List af)) (Y:=f) f1 0 Ow.nil eY b4 rr rr rr rr (a0.app [_,_,_,_,_,_]) f2 (fun _=>av.keep ae.nil) fun a12 f3 f4 f5 is f6 bv=>?_
 simp only [ah,ai,aq,ar] at bv
 refine aV rr rr<|aa.fin bi ?_;clear bi
 refine ad fun _ cc=>ad fun _ cd=>?_
 refine ag 1 1 ?_
 refine ak rr rr<|aa.fin cd ?_;clear cd
 obtain ⟨f7,f8,f9⟩:=c
 refine bq (fun e w=>∃R:List af,f7=R∧∃G:Option Addr,∃H:Option Nat,∃t:Nat,∃I:Nat→af,aU e [(7,.slice G ((([]:List af) ++f).length) t)]∧St B w0 (gO H t I::g8 d 0 240 h::g8 d 240 256 i::g8 d 496 256 k::g8 d 752 256 l::L) w∧Ow G H ((([]:List af) ++f).length) t I R) ?_ ?_
 ·
  refine W.block ?_
  refine bS f8 (fun (S:((List af)×Nat×K8)) e w=>∃u:Option Addr,∃v:Option Nat,∃n:Nat,∃x:Nat→af,aU e [(0,pt d 0),(4,pt m 0),(7,.slice u ((([]:List af) ++f).length) n),(8,VN S.2.1)]∧St B w0 (gO v n x::g8 m 0 16 S.2.2::g8 d 0 240 h::g8 d 240 256 i::g8 d 496 256 k::g8 d 752 256 l::L) w∧Ow u v ((([]:List af) ++f).length) n x S.1) ⟨a12,f3,f4,f5,(ab (ab (ab (ab au)))),bv,f6⟩ ?_
  rintro ⟨gc,g,ce⟩ it c gd ge i0 ⟨u,v,n,x,go,T,ci⟩
  obtain ⟨ge,rfl⟩:=go.open
  unfold pG at c
  refine ad fun _ cl=>ad fun _ co=>?_
  refine ag 4 15 ?_
  refine aj rr rr<|aE rr rr<|aa.len cB rr rr<|aR (a:=(((g:Nat):Int):Int)) (b:=((((([]:List af) ++f).length:Nat):Int):Int)) (p:=g < (([]:List af) ++f).length) rr rr rr rr bW<|aa.fin co ?_;clear co
  by_cases J:g < (([]:List af) ++f).length
  ·
   replace c:=aA c J
   refine aG (congrArg Value.bool (decide_eq_true J)) ?_
   refine W.skip ?_
   refine cl _ _ ?_;clear cl
   refine ad fun _ cs=>?_
   refine W.block ?_
   refine ad fun _ c1=>ag 5 3 ?_
   refine aD rr rr<|aP T 1 rr rr rr dq ?_
   have c2:=St.aF (C:= [_,_,_,_,_,_]) T [2,3,4,5,0,1] (by decide)
   simp only [pick,aL,aK,aM,aJ,ah,ai] at c2
   obtain ⟨y,gs,c⟩:=c
   refine aw zh (BN gs c2) ?_
   rintro _ i1 ⟨rfl,gt⟩
   refine ⟨_,rr,.inr ⟨rr,?_⟩⟩
   refine aa.alloc gt rr fX ae.nil fun dl i2 i3 ds=>?_
   simp only [ao,Nat.zero_add,Nat.reduceAdd,ah,ai] at ds
   refine aY (f':=fun q=>VU .u8 (y q)) ds 0 rr rr rr rr (fun _ _=>rr) eI rr fun i4 d0=>?_
   simp only [ah,ai,aq,ar] at d0
   refine aa.fin c1 ?_;clear c1
   refine ad fun _ d1=>ad fun _ d2=>?_
   refine ag 6 63 ?_
   refine aE rr rr<|aa.len cB rr rr<|aj rr rr ?_
   obtain ⟨i5,c⟩:=c
   refine d' (a:=(((([]:List af) ++f).length:Nat):Int)) (b:=((g:Nat):Int)) rr rr rr (by omega)<|Gb (a:=16) (b:=((((([]:List af) ++f).length:Nat):Int) - ((g:Nat):Int))) rr rr rr<|aj rr rr<|aa.fin d2 ?_;clear d2
   obtain ⟨g0,g1,g2⟩:=c
   refine bq (fun e w=>∃U:List af,g0=U∧∃K:Option Addr,∃M:Option Nat,∃z:Nat,∃N:Nat→af,aU e [(0,pt d 0),(4,pt m 0),(7,.slice K ((([]:List af) ++f).length) z),(8,VN g)]∧St B w0 (gO M z N::g8 d 0 240 h::g8 d 240 256 i::g8 d 496 256 k::g8 d 752 256 l::g8 m 0 16 ce::L) w∧Ow K M ((([]:List af) ++f).length) z N U) ?_ ?_
   ·
    refine W.block ?_
    refine bS g1 (fun (d3:((List af)×Nat)) e w=>∃A:Option Addr,∃D:Option Nat,∃o:Nat,∃O:Nat→af,aU e [(0,pt d 0),(4,pt m 0),(7,.slice A ((([]:List af) ++f).length) o),(8,VN g),(9,pt dl 0),(26,.int .i64 (min 16 ((((([]:List af) ++f).length:Nat):Int) - ((g:Nat):Int)))),(27,VN d3.2)]∧St B w0 (gO D o O::g8 dl 0 16 y::g8 d 0 240 h::g8 d 240 256 i::g8 d 496 256 k::g8 d 752 256 l::g8 m 0 16 ce::L) w∧Ow A D ((([]:List af) ++f).length) o O d3.1) ⟨u,v,n,x,(ab (ab (ab (ab (ab (ab (ab au))))))),bt 7 [5,0,1,2,3,4,6] d0,ci⟩ ?_
    rintro ⟨s,t188⟩ i6 c g3 g4 i7 ⟨A,D,o,O,g5,d4,E⟩
    obtain ⟨g4,rfl⟩:=g5.open
    unfold qj at c
    refine ad fun _ d5=>ag 1 1 ?_
    refine aR (a:=(((t188:Nat):Int):Int)) (b:=((min 16 ((((([]:List af) ++f).length:Nat):Int) - ((g:Nat):Int))):Int)) (p:=((t188:Nat):Int) < (min 16 ((((([]:List af) ++f).length:Nat):Int) - ((g:Nat):Int)))) rr rr rr rr fE<|aa.fin d5 ?_;clear d5
    refine ad fun _ d6=>?_
    by_cases P:((t188:Nat):Int) < (min 16 ((((([]:List af) ++f).length:Nat):Int) - ((g:Nat):Int)))
    ·
     replace c:=aA c P
     refine aG (congrArg Value.bool (decide_eq_true P)) ?_
     refine W.skip ?_
     refine d6 _ _ ?_;clear d6
     refine ad fun _ d7=>?_
     refine W.block ?_
     refine ad fun _ d8=>ag 2 3 ?_
     refine aj rr rr<|ak rr rr<|aa.fin d8 ?_;clear d8
     refine bd a7 [1,3,5,7,9,11,13,15,17,19,21,22] ?_
     have F:=d4.drew
     refine aE rr rr<|aj rr rr<|aj rr rr ?_
     obtain ⟨i8,c⟩:=c
     refine bu (a:=g) (b:=t188) rr rr rr (by omega) ?_
     obtain ⟨d9,c⟩:=c
     refine ju (j:=(g+t188)) F (E.bx 0 rr) b4 rr rr rr d9 ?_
     refine oN (j:=(g+t188)) F (E.bx 0 rr) rr rr d9 bZ fun i9 jd=>?_
     refine aj rr rr<|a1 (j:=t188) e1 rr rr rr (by omega)<|bk (j:=t188) F 1 rr rr rr (by omega) bZ<|cp .u8 (X:=(lit s (g+t188))) (Y:=(y t188)) rr rr rr ?_
     obtain ⟨el,c⟩:=c
     refine ju (j:=(g+t188)) F (E.bx 0 rr) b4 rr rr rr el ?_
     refine rX (j:=(g+t188)) (Y:=((lit s (g+t188)) ^^^ (y t188))) F 0 E rr rr rr rr el bJ rr fun jp g6 g7 em=>?_
     simp only [ah,ai,aq,ar] at em
     have kk:(s.set (g+t188) ((lit s (g+t188)) ^^^ (y t188))).length=s.length:=List.length_set
     refine aa.nil ?_
     refine bo ?_
     refine d7 _ _ ?_;clear d7
     refine ag 2 3 ?_
     refine bu (a:=t188) (b:=1) rr rr rr (by omega)<|aj rr rr<|aa.nil ?_
     exact bG ⟨_,c,A,D,o,g6,(ab (ab (ab (ab (ab (ab (ab au))))))),em,(show Ow _ _ ((([]:List af) ++f).length) _ _ _ from g7)⟩
    ·
     replace c:=az c P
     refine aO (congrArg Value.bool (decide_eq_false P)) ?_
     refine W.exit (bM (bU (bL ?_)))
     exact ⟨s,(g3 _ c).symm,A,D,o,O,(ab (ab (ab (ab au)))),bt 7 [0,2,3,4,5,6] d4,E⟩
   ·
    rintro g9 kw ⟨U,he,K,M,z,N,hi,eq,hk⟩
    obtain ⟨g9,rfl⟩:=hi.open
    subst he
    replace c:=g2
    refine d1 _ _ ?_;clear d1
    refine ag 3 1 ?_
    refine aP eq 5 rr rr rr dq ?_
    obtain ⟨hm,hu,c⟩:=c
    refine aw AK (z_ hu eq) ?_
    rintro _ lc ⟨rfl,hw⟩
    refine ⟨_,rr,.inr ⟨rr,?_⟩⟩
    refine aY (f':=fun q=>VU .u8 (hm q)) hw 5 rr rr rr rr (fun _ _=>rr) eI rr fun ld es=>?_
    simp only [ah,ai,aq,ar] at es
    refine aa.nil ?_
    refine bo ?_
    refine cs _ _ ?_;clear cs
    refine ag 3 7 ?_
    refine aj rr rr ?_
    obtain ⟨le,c⟩:=c
    refine bu (a:=g) (b:=16) rr rr rr (by omega)<|ak rr rr<|aa.nil ?_
    exact bG ⟨_,c,K,M,z,N,(ab (ab (ab (ab au)))),bt 6 [0,5,1,2,3,4] es,hk⟩
  ·
   replace c:=az c J
   refine aO (congrArg Value.bool (decide_eq_false J)) ?_
   refine W.exit (bM (bU (bL ?_)))
   exact ⟨gc,(gd _ c).symm,u,v,n,x,(ab au),bt 6 [0,2,3,4,5] T,ci⟩
 ·
  rintro hH li ⟨R,hO,G,H,t,I,h1,id,ii⟩
  obtain ⟨hH,rfl⟩:=h1.open
  subst hO
  replace c:=f9
  refine cc _ _ ?_;clear cc
  refine ad fun _ ex=>ag 2 3 ?_
  refine aE rr rr<|aV rr rr<|aa.fin ex ?_;clear ex
  refine W.ret (aB ?_)
  subst r
  refine ax.mk (.bD rr .nil) ?_
  exact ⟨G,H,(([]:List af) ++f).length,t,I,rr,id,ii⟩
end Go.Proofs.YtjclppnbbpnfnaaGreatDoor
