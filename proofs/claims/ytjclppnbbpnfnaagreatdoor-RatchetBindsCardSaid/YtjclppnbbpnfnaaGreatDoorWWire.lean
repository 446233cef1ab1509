/-
 WALKS of the package's functions, printed by this session's own program (auto.py).
-/
import Derived.Test.YtjclppnbbpnfnaaGreatDoorWF
import Derived.Test.YtjclppnbbpnfnaaGreatDoorProg
import Derived.Test.YtjclppnbbpnfnaaGreatDoorEd
import Derived.Test.YtjclppnbbpnfnaaGreatDoorRWire
import Derived.Test.YtjclppnbbpnfnaaGreatDoorEls
namespace Go.Proofs.YtjclppnbbpnfnaaGreatDoor
set_option linter.unusedSimpArgs false
set_option linter.unusedVariables false
set_option linter.unusedSectionVars false
set_option maxRecDepth 8000
set_option maxHeartbeats 1000000
open Go Go.LW
theorem ve {B:Nat} {w0:aC} {w:World} {L:List Rg} {f:List (List af)} {g:Option Addr} {F h ci:Nat} (i:bR L ci g F h f) {r:(List af)} (d:kC f r) (cl:St B w0 (L) w):
  Calls Tryz.prog 71 #[.slice g F h] w fun e w'=>∃G:Option Addr,∃H:Option Nat,∃I z:Nat,∃J:Nat→af,e= .returned (.slice G I z)∧St B w0 (gO H z J::L) w'∧Ow G H I z J r:=by
 refine W.enter 33 Tryz.func71 rr rr rr ?_
 unfold kC at d
 have co:=i.hl;subst co
 refine ad fun _ K=>ag 1 1 ?_
 refine aV rr rr<|aa.fin K ?_;clear K
 refine ad fun _ M=>ag 1 1 ?_
 refine ak rr rr<|aa.fin M ?_;clear M
 refine ad fun _ N=>ad fun _ O=>?_
 refine ag 3 7 ?_
 refine aE rr rr<|aa.len kj rr rr<|aj rr rr<|aa.fin O ?_;clear O
 obtain ⟨A,cs,c1⟩:=d
 refine bq (fun e w=>∃C:Nat,A=C∧aU e [(0,.slice g f.length h),(3,VN C)]∧St B w0 (L) w) ?_ ?_
 ·
  refine W.block ?_
  refine bS cs (fun (P:(Nat×Nat)) e w=>aU e [(0,.slice g f.length h),(3,VN P.1),(9,.slice g f.length h),(10,VN f.length),(11,VN P.2)]∧St B w0 (L) w) ⟨(ab (ab (ab (ab (ab au))))),cl⟩ ?_
  rintro ⟨Q,t26⟩ f5 d c2 dl f6 ⟨ds,h29⟩
  obtain ⟨dl,rfl⟩:=ds.open
  unfold jt at d
  refine ad fun _ R=>ag 1 1 ?_
  refine aR (a:=(((t26:Nat):Int):Int)) (b:=(((f.length:Nat):Int):Int)) (p:=t26 < f.length) rr rr rr rr bW<|aa.fin R ?_;clear R
  refine ad fun _ S=>?_
  by_cases n:t26 < f.length
  ·
   replace d:=aA d n
   refine aG (congrArg Value.bool (decide_eq_true n)) ?_
   refine W.skip ?_
   refine S _ _ ?_;clear S
   refine ad fun _ T=>?_
   refine W.block ?_
   refine ad fun _ U=>ag 3 7 ?_
   obtain ⟨V,d⟩:=d
   refine k3 (j:=t26) i kY rr rr rr V ?_
   refine k0 (D:= []) (j:=t26) h29 i rr rr V hT fun f7 i36 f8 f9 f' gc=>?_
   refine aV rr rr<|aa.fin U ?_;clear U
   refine ag 5 31 ?_
   refine aj rr rr<|aE rr rr<|aa.len cB rr rr ?_
   obtain ⟨gd,d⟩:=d
   refine bu (a:=Q) (b:=(f.getD t26 []).length) rr rr rr (by omega)<|ak rr rr<|aa.nil ?_
   refine bo ?_
   refine T _ _ ?_;clear T
   refine ag 2 3 ?_
   obtain ⟨ge,d⟩:=d
   refine bu (a:=t26) (b:=1) rr rr rr (by omega)<|aj rr rr<|aa.nil ?_
   exact bG ⟨_,d,(ab (ab (ab (ab (ab au))))),h29⟩
  ·
   replace d:=az d n
   refine aO (congrArg Value.bool (decide_eq_false n)) ?_
   refine W.exit (bM (bU (bL ?_)))
   exact ⟨Q,(c2 _ d).symm,(ab (ab au)),h29⟩
 ·
  rintro d0 go ⟨C,d1,d2,d3⟩
  obtain ⟨d0,rfl⟩:=d2.open
  subst d1
  replace d:=c1
  refine N _ _ ?_;clear N
  refine ad fun _ Z=>ag 3 5 ?_
  refine aj rr rr ?_
  obtain ⟨am,d⟩:=d
  refine j0 (len:=0) (c:=A) d3 eY rr rr rr am.1 am.2 (fun _=>av.keep ae.nil) fun ap gs gt d4 d5=>?_
  refine aV rr rr<|aa.fin Z ?_;clear Z
  refine ad fun _ a0=>ad fun _ a2=>?_
  refine ag 3 7 ?_
  refine aE rr rr<|aa.len kj rr rr<|aj rr rr<|aa.fin a2 ?_;clear a2
  obtain ⟨a3,d6,d7⟩:=d
  refine bq (fun e w=>∃k:List af,a3=k∧∃o:Option Addr,∃q:Option Nat,∃l:Nat,∃s:Nat→af,aU e [(6,.slice o k.length l)]∧St B w0 (gO q l s::L) w∧Ow o q k.length l s k) ?_ ?_
  ·
   refine W.block ?_
   refine bS d6 (fun (t:((List af)×Nat)) e w=>∃u:Option Addr,∃v:Option Nat,∃m:Nat,∃x:Nat→af,aU e [(6,.slice u t.1.length m),(22,.slice g f.length h),(23,VN f.length),(24,VN t.2)]∧St B w0 (gO v m x::L) w∧Ow u v t.1.length m x t.1) ⟨some ⟨ap,0,none⟩,some ap,A,(fun _=>0#8),(ab (ab (ab (ab au)))),d5,d4⟩ ?_
   rintro ⟨a4,t68⟩ g0 d d8 d9 g1 ⟨u,v,m,x,el,E,a5⟩
   obtain ⟨d9,rfl⟩:=el.open
   unfold jy at d
   refine ad fun _ a9=>ag 1 1 ?_
   refine aR (a:=(((t68:Nat):Int):Int)) (b:=(((f.length:Nat):Int):Int)) (p:=t68 < f.length) rr rr rr rr bW<|aa.fin a9 ?_;clear a9
   refine ad fun _ be=>?_
   by_cases y:t68 < f.length
   ·
    replace d:=aA d y
    refine aG (congrArg Value.bool (decide_eq_true y)) ?_
    refine W.skip ?_
    refine be _ _ ?_;clear be
    refine ad fun _ bi=>?_
    refine W.block ?_
    refine ad fun _ bv=>ag 3 7 ?_
    obtain ⟨cc,d⟩:=d
    refine k3 (j:=t68) i kY rr rr rr cc ?_
    refine k0 (D:= [_]) (j:=t68) E i rr rr cc hT fun g2 i78 a78 g3 g4 em=>?_
    refine aV rr rr<|aa.fin bv ?_;clear bv
    refine ag 4 11 ?_
    refine aE rr rr<|aE rr rr ?_
    obtain ⟨eq,d⟩:=d
    refine kS (X:=a4) (Y:=(f.getD t68 [])) E 0 a5 eY b4 rr rr rr rr (em.app [_]) eq (fun _=>av.keep ae.nil) fun a79 es ex fd g5 fn cd=>?_
    simp only [ah,ai,aq,ar] at cd
    refine aV rr rr<|aa.nil ?_
    refine bo ?_
    refine bi _ _ ?_;clear bi
    refine ag 2 3 ?_
    obtain ⟨g6,d⟩:=d
    refine bu (a:=t68) (b:=1) rr rr rr (by omega)<|aj rr rr<|aa.nil ?_
    exact bG ⟨_,d,a79,es,ex,fd,(ab (ab (ab (ab au)))),cd,fn⟩
   ·
    replace d:=az d y
    refine aO (congrArg Value.bool (decide_eq_false y)) ?_
    refine W.exit (bM (bU (bL ?_)))
    exact ⟨a4,(d8 _ d).symm,u,v,m,x,(ab au),E,a5⟩
  ·
   rintro f0 g7 ⟨k,f1,o,q,l,s,f2,f3,f4⟩
   obtain ⟨f0,rfl⟩:=f2.open
   subst f1
   replace d:=d7
   refine a0 _ _ ?_;clear a0
   refine ad fun _ ce=>ag 2 3 ?_
   refine aE rr rr<|aV rr rr<|aa.fin ce ?_;clear ce
   refine W.ret (aB ?_)
   subst r
   refine ax.mk (.bD rr .nil) ?_
   exact ⟨o,q,a3.length,l,s,rr,f3,f4⟩
theorem rZ {B:Nat} {w0:aC} {w:World} {L:List Rg} {d:List af} {k:Option Addr} {u l R:Nat} (m:Bx L R k u l d) {f:List af} {n:Option Addr} {v o S:Nat} (q:Bx L S n v o f) {r:Bool} (c:jP d f r) (x:St B w0 (L) w):
  Calls Tryz.prog 131 #[.slice k u l,.slice n v o] w fun e w'=>e= .returned (.bool r)∧St B w0 (L) w':=by
 refine W.enter 31 Tryz.func131 rr rr rr ?_
 unfold jP at c
 have T:=m.hl;subst T
 have U:=q.hl;subst U
 refine ad fun _ y=>ag 1 1 ?_
 refine a8 rr rr<|aa.fin y ?_;clear y
 refine ad fun _ z=>ad fun _ A=>?_
 refine ag 5 31 ?_
 refine aE rr rr<|aa.len cB rr rr<|aE rr rr<|aa.len cB rr rr<|aR (a:=(((d.length:Nat):Int):Int)) (b:=(((f.length:Nat):Int):Int)) (p:=d.length≠f.length) rr rr rr rr cm<|aa.fin A ?_;clear A
 by_cases h:d.length≠f.length
 ·
  replace c:=aA c h
  refine aG (congrArg Value.bool (decide_eq_true h)) ?_
  refine ad fun _ C=>ag 1 1 ?_
  refine a8 rr rr<|aa.fin C ?_;clear C
  refine W.ret (a' (aB ?_))
  subst r
  refine ax.mk (.b2 rr .nil) ?_
  exact ⟨rr,x⟩
 ·
  replace c:=az c h
  refine aO (congrArg Value.bool (decide_eq_false h)) ?_
  refine W.skip ?_
  refine z _ _ ?_;clear z
  refine ad fun _ D=>ag 1 1 ?_
  refine ak rr rr<|aa.fin D ?_;clear D
  refine ad fun _ E=>ad fun _ F=>?_
  refine ag 3 7 ?_
  refine aE rr rr<|aa.len cB rr rr<|aj rr rr<|aa.fin F ?_;clear F
  obtain ⟨s,V,Z⟩:=c
  refine bq (fun e w=>∃t:BitVec 8,s=t∧aU e [(5,VU .u8 t)]∧St B w0 (L) w) ?_ ?_
  ·
   refine W.block ?_
   refine bS V (fun (G:((BitVec 8)×Nat)) e w=>aU e [(0,.slice k d.length l),(1,.slice n f.length o),(5,VU .u8 G.1),(13,VN d.length),(14,VN G.2)]∧St B w0 (L) w) ⟨(ab (ab (ab (ab (ab au))))),x⟩ ?_
   rintro ⟨H,t35⟩ a9 c am ap be ⟨a0,I⟩
   obtain ⟨ap,rfl⟩:=a0.open
   unfold oo at c
   refine ad fun _ J=>ag 1 1 ?_
   refine aR (a:=(((t35:Nat):Int):Int)) (b:=(((d.length:Nat):Int):Int)) (p:=t35 < d.length) rr rr rr rr bW<|aa.fin J ?_;clear J
   refine ad fun _ K=>?_
   by_cases i:t35 < d.length
   ·
    replace c:=aA c i
    refine aG (congrArg Value.bool (decide_eq_true i)) ?_
    refine W.skip ?_
    refine K _ _ ?_;clear K
    refine ad fun _ M=>?_
    refine W.block ?_
    refine ad fun _ N=>ag 2 3 ?_
    refine aj rr rr<|ak rr rr<|aa.fin N ?_;clear N
    refine bd a7 [1,3,5,7,9,11,13,15,17,19,21,23] ?_
    have g:=I.drew
    refine aj rr rr<|aE rr rr<|aj rr rr ?_
    obtain ⟨O,c⟩:=c
    refine ju (j:=t35) g m b4 rr rr rr O ?_
    refine oN (j:=t35) g m rr rr O bZ fun bi bv=>?_
    refine aE rr rr<|aj rr rr ?_
    obtain ⟨P,c⟩:=c
    refine ju (j:=t35) g q b4 rr rr rr P ?_
    refine oN (j:=t35) g q rr rr P bZ fun cc cd=>?_
    refine cp .u8 (X:=(lit d t35)) (Y:=(lit f t35)) rr rr rr<|gI .u8 (X:=H) (Y:=((lit d t35) ^^^ (lit f t35))) rr rr rr<|ak rr rr<|aa.nil ?_
    refine bo ?_
    refine M _ _ ?_;clear M
    refine ag 2 3 ?_
    obtain ⟨ce,c⟩:=c
    refine bu (a:=t35) (b:=1) rr rr rr (by omega)<|aj rr rr<|aa.nil ?_
    exact bG ⟨_,c,(ab (ab (ab (ab (ab au))))),g⟩
   ·
    replace c:=az c i
    refine aO (congrArg Value.bool (decide_eq_false i)) ?_
    refine W.exit (bM (bU (bL ?_)))
    exact ⟨H,(am _ c).symm,(ab au),I⟩
  ·
   rintro a2 ci ⟨t,a3,a4,a5⟩
   obtain ⟨a2,rfl⟩:=a4.open
   subst a3
   replace c:=Z
   refine E _ _ ?_;clear E
   refine ad fun _ Q=>ag 3 7 ?_
   refine aj rr rr<|aR (a:=(s.toNat:Int)) (b:=((0#8).toNat:Int)) (p:=s=0#8) rr rr rr rr ih<|a8 rr rr<|aa.fin Q ?_;clear Q
   refine W.ret (aB ?_)
   subst r
   refine ax.mk (.b2 rr .nil) ?_
   exact ⟨rr,a5⟩
end Go.Proofs.YtjclppnbbpnfnaaGreatDoor
