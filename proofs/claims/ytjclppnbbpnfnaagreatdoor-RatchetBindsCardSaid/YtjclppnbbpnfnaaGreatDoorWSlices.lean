/-
 WALKS of the package's functions, printed by this session's own program (auto.py).
-/
import Derived.Test.YtjclppnbbpnfnaaGreatDoorWF
import Derived.Test.YtjclppnbbpnfnaaGreatDoorProg
import Derived.Test.YtjclppnbbpnfnaaGreatDoorEd
import Derived.Test.YtjclppnbbpnfnaaGreatDoorRSlices
import Derived.Test.YtjclppnbbpnfnaaGreatDoorEls
namespace Go.Proofs.YtjclppnbbpnfnaaGreatDoor
set_option linter.unusedSimpArgs false
set_option linter.unusedVariables false
set_option linter.unusedSectionVars false
set_option maxRecDepth 8000
set_option maxHeartbeats 1000000
open Go Go.LW
theorem Gz {B:Nat} {w0:aC} {w:World} {L:List Rg} {d:Int} {r:(List af)} (c:mX d r) (o:St B w0 (L) w):
  Calls Tryz.prog 104 #[.slice none 0 0,.int .i64 d] w fun e w'=>∃q:Option Addr,∃s:Option Nat,∃t l:Nat,∃u:Nat→af,e= .returned (.slice q t l)∧St B w0 (gO s l u::L) w'∧Ow q s t l u r:=by
 refine W.enter 27 Tryz.func104 rr rr rr ?_
 unfold mX at c
 refine ad fun _ v=>ag 1 1 ?_
 refine aV rr rr<|aa.fin v ?_;clear v
 refine ad fun _ x=>ad fun _ y=>?_
 refine ag 2 3 ?_
 refine aj rr rr<|aR (a:=(d:Int)) (b:=(0:Int)) (p:=d < 0) rr rr rr rr fE<|aa.fin y ?_;clear y
 by_cases g:d < 0
 ·
  replace c:=aA c g
  refine aG (congrArg Value.bool (decide_eq_true g)) ?_
  refine ag 2 0 ?_
  exact c.elim
 ·
  replace c:=az c g
  refine aO (congrArg Value.bool (decide_eq_false g)) ?_
  refine W.skip ?_
  refine x _ _ ?_;clear x
  refine ad fun _ z=>?_
  obtain ⟨E,F,G⟩:=c
  refine bq (fun e w=>∃n:List af,(E=n)∧∃h:Option Addr,∃i:Option Nat,∃f:Nat,∃j:Nat→af,aU e [(0,.slice h 0 f)]∧St B w0 (gO i f j::L) w∧Ow h i 0 f j n) ?_ ?_
  ·
   replace c:=F
   refine ad fun _ A=>ag 8 255 ?_
   refine aj rr rr<|aE rr rr<|aa.cap cB rr rr<|aE rr rr<|aa.len cB rr rr<|jx (a:=0) (b:=0) rr rr rr (by omega) ?_
   obtain ⟨V,c⟩:=c
   refine d' (a:=d) (b:=(((0 - 0):Nat):Int)) rr rr rr (by omega)<|ak rr rr<|aa.fin A ?_;clear A
   refine ad fun _ C=>ag 2 3 ?_
   refine aj rr rr<|aR (a:=((d - (((0 - 0):Nat):Int)):Int)) (b:=(0:Int)) (p:=0 < (d - (((0 - 0):Nat):Int))) rr rr rr rr fw<|aa.fin C ?_;clear C
   by_cases k:0 < (d - (((0 - 0):Nat):Int))
   ·
    replace c:=aA c k
    refine aG (congrArg Value.bool (decide_eq_true k)) ?_
    refine ag 10 991 ?_
    refine aE rr rr<|aE rr rr<|aa.cap cB rr rr<|ry (hi:=0) b4 rr rr rr ⟨_,rr⟩ (by omega)<|aj rr rr ?_
    obtain ⟨H,c⟩:=c
    have h27:=o.cN
    obtain ⟨I,c⟩:=c
    refine Co (X:=([]:List af)) (m:=(d - (((0 - 0):Nat):Int)).toNat) h27 0 Ow.nil eY gX gB rr rr (congrArg (Value.int .i64) (Int.toNat_of_nonneg H).symm) rr I (fun _=>av.keep ae.nil) fun a28 J K M Y N h28=>?_
    simp only [ah,ai,aq,ar] at h28
    refine aE rr rr<|aa.len cB rr rr ?_
    obtain ⟨Z,c⟩:=c
    refine ry (hi:=0) b4 rr rr rr ⟨_,rr⟩ (by omega) ?_
    have O:=N.zero
    refine aV rr rr<|aa.nil ?_
    exact ⟨([]:List af),c,a28,J,K,M,(ab au),h28,O⟩
   ·
    replace c:=az c k
    refine aO (congrArg Value.bool (decide_eq_false k)) ?_
    refine W.skip ?_
    have P:=o.cN
    exact ⟨([]:List af),c,none,none,0,(fun _=>0#8),(ab au),P,Ow.nil⟩
  ·
   rintro Q am ⟨n,R,h,i,f,j,S,T,U⟩
   subst R
   obtain ⟨Q,rfl⟩:=S.open
   replace c:=G
   refine z _ _ ?_;clear z
   refine ad fun _ D=>ag 2 3 ?_
   refine aE rr rr<|aV rr rr<|aa.fin D ?_;clear D
   refine W.ret (aB ?_)
   subst r
   refine ax.mk (.bD rr .nil) ?_
   exact ⟨h,i,0,f,j,rr,T,U⟩
theorem Bh {B:Nat} {w0:aC} {w:World} {L:List Rg} {d:List (List af)} {f:Option Addr} {G g co:Nat} (h:bR L co f G g d) {r:(List af)} (c:ox d r) (cs:St B w0 (L) w):
  Calls Tryz.prog 76 #[.slice f G g] w fun e w'=>∃H:Option Addr,∃I:Option Nat,∃J A:Nat,∃K:Nat→af,e= .returned (.slice H J A)∧St B w0 (gO I A K::L) w'∧Ow H I J A K r:=by
 refine W.enter 36 Tryz.func76 rr rr rr ?_
 unfold ox at c
 have c1:=h.hl;subst c1
 refine ad fun _ M=>ag 1 1 ?_
 refine aV rr rr<|aa.fin M ?_;clear M
 refine ad fun _ N=>ag 1 1 ?_
 refine ak rr rr<|aa.fin N ?_;clear N
 refine ad fun _ O=>ad fun _ P=>?_
 refine ag 3 7 ?_
 refine aE rr rr<|aa.len kj rr rr<|aj rr rr<|aa.fin P ?_;clear P
 obtain ⟨c2,dl,ds⟩:=c
 refine bq (fun e w=>∃C:Nat,c2=C∧aU e [(0,.slice f d.length g),(3,VN C)]∧St B w0 (L) w) ?_ ?_
 ·
  refine W.block ?_
  refine bS dl (fun (Q:(Nat×Nat)) e w=>aU e [(0,.slice f d.length g),(3,VN Q.1),(9,.slice f d.length g),(10,VN d.length),(11,VN Q.2)]∧St B w0 (L) w) ⟨(ab (ab (ab (ab (ab au))))),cs⟩ ?_
  rintro ⟨i,t32⟩ gd c d0 d1 ge ⟨d2,E⟩
  obtain ⟨d1,rfl⟩:=d2.open
  unfold nX at c
  refine ad fun _ R=>ag 1 1 ?_
  refine aR (a:=(((t32:Nat):Int):Int)) (b:=(((d.length:Nat):Int):Int)) (p:=t32 < d.length) rr rr rr rr bW<|aa.fin R ?_;clear R
  refine ad fun _ S=>?_
  by_cases n:t32 < d.length
  ·
   replace c:=aA c n
   refine aG (congrArg Value.bool (decide_eq_true n)) ?_
   refine W.skip ?_
   refine S _ _ ?_;clear S
   refine ad fun _ T=>?_
   refine W.block ?_
   refine ad fun _ U=>ag 3 7 ?_
   obtain ⟨V,c⟩:=c
   refine k3 (j:=t32) h kY rr rr rr V ?_
   refine k0 (D:= []) (j:=t32) E h rr rr V hT fun go i42 gs gt g0 g1=>?_
   refine aV rr rr<|aa.fin U ?_;clear U
   refine ad fun _ Z=>ag 5 31 ?_
   refine aj rr rr<|aE rr rr<|aa.len cB rr rr ?_
   obtain ⟨g2,c⟩:=c
   refine bu (a:=i) (b:=(d.getD t32 []).length) rr rr rr (by omega)<|ak rr rr<|aa.fin Z ?_;clear Z
   refine ad fun _ am=>ag 2 3 ?_
   refine aj rr rr<|aR (a:=((((i+((d.getD t32 []).length)):Nat):Int):Int)) (b:=(0:Int)) (p:=(i+((d.getD t32 []).length)) < 0) rr rr rr rr bW<|aa.fin am ?_;clear am
   by_cases o:(i+((d.getD t32 []).length)) < 0
   ·
    replace c:=aA c o
    refine aG (congrArg Value.bool (decide_eq_true o)) ?_
    refine ag 2 0 ?_
    exact c.elim
   ·
    replace c:=az c o
    refine aO (congrArg Value.bool (decide_eq_false o)) ?_
    refine W.skip ?_
    refine bo ?_
    refine T _ _ ?_;clear T
    refine ag 2 3 ?_
    obtain ⟨g3,c⟩:=c
    refine bu (a:=t32) (b:=1) rr rr rr (by omega)<|aj rr rr<|aa.nil ?_
    exact bG ⟨_,c,(ab (ab (ab (ab (ab au))))),E⟩
  ·
   replace c:=az c n
   refine aO (congrArg Value.bool (decide_eq_false n)) ?_
   refine W.exit (bM (bU (bL ?_)))
   exact ⟨i,(d0 _ c).symm,(ab (ab au)),E⟩
 ·
  rintro d3 g4 ⟨C,d4,d5,d6⟩
  obtain ⟨d3,rfl⟩:=d5.open
  subst d4
  replace c:=ds
  refine O _ _ ?_;clear O
  refine ad fun _ ap=>ag 3 5 ?_
  refine aj rr rr ?_
  obtain ⟨g5,d7,c⟩:=c
  refine aw EA (Gz d7 d6) ?_
  rintro _ g6 ⟨d8,d9,g7,el,em,rfl,a0,a2⟩
  obtain rfl:=a2.hl
  refine ⟨_,rr,.inl ⟨ae.keep (by exact ae.nil) a0,?_⟩⟩
  refine aV rr rr<|aa.fin ap ?_;clear ap
  refine ad fun _ a3=>ad fun _ a4=>?_
  refine ag 3 7 ?_
  refine aE rr rr<|aa.len kj rr rr<|aj rr rr<|aa.fin a4 ?_;clear a4
  obtain ⟨a5,eq,es⟩:=c
  refine bq (fun e w=>∃k:List af,a5=k∧∃q:Option Addr,∃s:Option Nat,∃l:Nat,∃t:Nat→af,aU e [(6,.slice q k.length l)]∧St B w0 (gO s l t::L) w∧Ow q s k.length l t k) ?_ ?_
  ·
   refine W.block ?_
   refine bS eq (fun (u:((List af)×Nat)) e w=>∃v:Option Addr,∃x:Option Nat,∃m:Nat,∃y:Nat→af,aU e [(6,.slice v u.1.length m),(25,.slice f d.length g),(26,VN d.length),(27,VN u.2)]∧St B w0 (gO x m y::L) w∧Ow v x u.1.length m y u.1) ⟨d8,d9,el,em,(ab (ab (ab (ab au)))),a0,a2⟩ ?_
   rintro ⟨a9,t83⟩ g8 c ex fd g9 ⟨v,x,m,y,fn,F,be⟩
   obtain ⟨fd,rfl⟩:=fn.open
   unfold pf at c
   refine ad fun _ bi=>ag 1 1 ?_
   refine aR (a:=(((t83:Nat):Int):Int)) (b:=(((d.length:Nat):Int):Int)) (p:=t83 < d.length) rr rr rr rr bW<|aa.fin bi ?_;clear bi
   refine ad fun _ bv=>?_
   by_cases z:t83 < d.length
   ·
    replace c:=aA c z
    refine aG (congrArg Value.bool (decide_eq_true z)) ?_
    refine W.skip ?_
    refine bv _ _ ?_;clear bv
    refine ad fun _ cc=>?_
    refine W.block ?_
    refine ad fun _ cd=>ag 3 7 ?_
    obtain ⟨ce,c⟩:=c
    refine k3 (j:=t83) h kY rr rr rr ce ?_
    refine k0 (D:= [_]) (j:=t83) F h rr rr ce hT fun he i93 a93 hi hk f0=>?_
    refine aV rr rr<|aa.fin cd ?_;clear cd
    refine ag 4 11 ?_
    refine aE rr rr<|aE rr rr ?_
    obtain ⟨f1,c⟩:=c
    refine kS (X:=a9) (Y:=(d.getD t83 [])) F 0 be eY b4 rr rr rr rr (f0.app [_]) f1 (fun _=>av.keep ae.nil) fun f2 f3 f4 f5 hm f6 ci=>?_
    simp only [ah,ai,aq,ar] at ci
    refine aV rr rr<|aa.nil ?_
    refine bo ?_
    refine cc _ _ ?_;clear cc
    refine ag 2 3 ?_
    obtain ⟨hu,c⟩:=c
    refine bu (a:=t83) (b:=1) rr rr rr (by omega)<|aj rr rr<|aa.nil ?_
    exact bG ⟨_,c,f2,f3,f4,f5,(ab (ab (ab (ab au)))),ci,f6⟩
   ·
    replace c:=az c z
    refine aO (congrArg Value.bool (decide_eq_false z)) ?_
    refine W.exit (bM (bU (bL ?_)))
    exact ⟨a9,(ex _ c).symm,v,x,m,y,(ab au),F,be⟩
  ·
   rintro f7 hw ⟨k,f8,q,s,l,t,f9,f',gc⟩
   obtain ⟨f7,rfl⟩:=f9.open
   subst f8
   replace c:=es
   refine a3 _ _ ?_;clear a3
   refine ad fun _ cl=>ag 2 3 ?_
   refine aE rr rr<|aV rr rr<|aa.fin cl ?_;clear cl
   refine W.ret (aB ?_)
   subst r
   refine ax.mk (.bD rr .nil) ?_
   exact ⟨q,s,a5.length,l,t,rr,f',gc⟩
theorem zM {B:Nat} {w0:aC} {w:World} {L:List Rg} {s1:aZ} {c:Option Addr} {gw i A:Nat} (d:LV bB L A c gw i s1) {r:(aZ)} (a:rj s1 r) (j:St B w0 (L) w):
  Calls Tryz.prog 33 #[.slice c gw i] w fun e w'=>∃k:Option Addr,∃l:Option Nat,∃m f:Nat,∃n:Nat→Value,e= .returned (.slice k m f)∧St B w0 (gL l (f*34) n::L) w'∧LO bB [] k l m f n r:=by
 refine W.enter 8 Tryz.func33 rr rr rr ?_
 unfold rj at a
 have C:=d.hl;subst C
 refine ad fun _ o=>ag 1 1 ?_
 refine aV rr rr<|aa.fin o ?_;clear o
 refine ad fun _ p=>ad fun _ q=>?_
 refine ag 2 3 ?_
 refine aE rr rr<|EU kL rr rr rr<|aa.fin q ?_;clear q
 by_cases b:¬(c.isNone=true)
 ·
  refine aO (congrArg Value.bool (Bool.eq_false_iff.2 b)) ?_
  refine W.skip ?_
  refine p _ _ ?_;clear p
  refine ad fun _ s=>ag 4 10 ?_
  refine Fe j (fun _=>undef) kL yU rr (av.keep ae.nil) fun G H I E=>?_
  refine aE rr rr ?_
  obtain ⟨t,a⟩:=a
  refine j9 (D:=bB) (X:=([]:aZ)) (Y:=s1) (sz:=34) E () (0#32,0#32,(fun _=>0#8)) 0 LO.empty rr o5 rr kL rr rr rr rr (d.app [_]) (fun _ _ h=>h) t.1 t.2 (fun _=>av.keep ae.nil) fun u v x F8 J g y=>?_
  simp only [ah,ai,aq,ar] at y
  replace g:LO bB [] u v (([]:aZ) ++s1).length x F8 (([]:aZ) ++s1):=g.re (fun _ _ h=>h)
  refine aV rr rr<|aa.fin s ?_;clear s
  refine W.ret (aB ?_)
  subst r
  refine ax.mk (.bD rr .nil) ?_
  exact ⟨u,v,(([]:aZ) ++s1).length,x,F8,rr,y,g⟩
 ·
  replace b:=Classical.not_not.1 b
  refine aG (congrArg Value.bool b) ?_
  obtain ⟨_,a⟩:=a
  obtain rfl:=d.xX b
  refine ad fun _ z=>ag 1 1 ?_
  refine aV rr rr<|aa.fin z ?_;clear z
  refine W.ret (a' (aB ?_))
  have F:St B w0 (⟨none,0,0*34,fun _=>undef,true⟩::_) _:=j.hP (fun _=>undef)
  subst r
  refine ax.mk (.bD rr .nil) ?_
  exact ⟨none,none,0,0,(fun _=>undef),rr,F,LO.nil⟩
theorem Gr {B:Nat} {w0:aC} {w:World} {L:List Rg} {s1:aZ} {i:Option Addr} {j:Option Nat} {gw g:Nat} {l:Nat→Value} (h:LO bB [] i j gw g l s1) {f d:Int} {r:(aZ)} (c:rb s1 f d r) (o:St B w0 (gL j (g*34) l::L) w):
  Calls Tryz.prog 95 #[.slice i gw g,.int .i64 f,.int .i64 d] w fun e w'=>∃q:Option Addr,∃s:Option Nat,∃t n:Nat,∃u:Nat→Value,e= .returned (.slice q t n)∧St B w0 (gL s (n*34) u::L) w'∧LO bB [] q s t n u r:=by
 refine W.enter 33 Tryz.func95 rr rr rr ?_
 unfold rb at c
 have K:=h.hl;subst K
 refine ad fun _ v=>ag 1 1 ?_
 refine aV rr rr<|aa.fin v ?_;clear v
 refine ad fun _ x=>ag 6 63 ?_
 refine aE rr rr<|aj rr rr<|aj rr rr<|aE rr rr<|aa.len iN rr rr ?_
 obtain ⟨M,c⟩:=c
 obtain ⟨N,c⟩:=c
 obtain ⟨U,c⟩:=c
 have V:s1.length≤g:=h.hc
 refine E8 (lo:=f.toNat) (hi:=d.toNat) (m:=s1.length) (sz:=34) gY rr rr ⟨_,congrArg (Value.int .i64) (Int.toNat_of_nonneg M).symm⟩ ⟨_,congrArg (Value.int .i64) (Int.toNat_of_nonneg N).symm⟩ ⟨_,rr⟩ (by omega) fun _=>?_
 refine aa.fin x ?_;clear x
 refine ad fun _ y=>ad fun _ z=>?_
 refine ag 3 7 ?_
 refine aj rr rr<|aj rr rr<|aR (a:=(f:Int)) (b:=(d:Int)) (p:=f=d) rr rr rr rr j3<|aa.fin z ?_;clear z
 by_cases k:f=d
 ·
  replace c:=aA c k
  refine aG (congrArg Value.bool (decide_eq_true k)) ?_
  refine ad fun _ A=>ag 2 3 ?_
  refine aE rr rr<|aV rr rr<|aa.fin A ?_;clear A
  refine W.ret (a' (aB ?_))
  subst r
  refine ax.mk (.bD rr .nil) ?_
  exact ⟨i,j,s1.length,g,l,rr,o,h⟩
 ·
  replace c:=az c k
  refine aO (congrArg Value.bool (decide_eq_false k)) ?_
  refine W.skip ?_
  refine y _ _ ?_;clear y
  refine ad fun _ C=>ag 3 7 ?_
  refine aE rr rr<|aa.len iN rr rr<|ak rr rr<|aa.fin C ?_;clear C
  refine ad fun _ E=>?_
  refine bd a7 [1,3,5,7,9,11,12,15] ?_
  have O:=o.drew
  refine aE rr rr<|aj rr rr ?_
  obtain ⟨P,c⟩:=c
  obtain ⟨X,c⟩:=c
  have Y:s1.length≤g:=h.hc
  refine ry (hi:=f.toNat) gY rr rr rr ⟨_,congrArg (Value.int .i64) (Int.toNat_of_nonneg P).symm⟩ (by omega)<|aE rr rr<|aj rr rr ?_
  obtain ⟨Q,c⟩:=c
  obtain ⟨Z,c⟩:=c
  have am:s1.length≤g:=h.hc
  refine gF (lo:=d.toNat) (hi:=s1.length) gY rr rr ⟨_,congrArg (Value.int .i64) (Int.toNat_of_nonneg Q).symm⟩ rr (by omega) ?_
  have F:(cG s1 0 f.toNat ++cG s1 d.toNat s1.length).length≤s1.length:=by rw [List.length_append,nk (by omega),nk (by omega)];omega
  have G:=h.hc
  refine Fs (D:=bB) (sz:=34) (lo:=f.toNat) (hi:=d.toNat) O 0 gg h rr o5 kL rr rr rr rr (by have hq:f.toNat≤d.toNat∧d.toNat≤s1.length:=(by omega);exact hq) (fun _=>av.keep ae.nil) fun ap a0 R H=>?_
  simp only [ah,ai,aq,ar] at H
  refine aV rr rr<|aa.fin E ?_;clear E
  refine ad fun _ I=>ag 6 31 ?_
  refine aE rr rr<|aE rr rr<|aa.len iN rr rr<|aj rr rr<|gF (lo:=(cG s1 0 f.toNat ++cG s1 d.toNat s1.length).length) (hi:=s1.length) (sz:=34) gY rr rr ⟨_,rr⟩ ⟨_,rr⟩ ⟨F,G⟩ ?_
  refine E2 (D:=bB) (sz:=34) (lo:=(cG s1 0 f.toNat ++cG s1 d.toNat s1.length).length) (hi:=s1.length) H () (0#32,0#32,(fun _=>0#8)) 0 R rr o5 rr rr rr rr ⟨Nat.le_refl _,F,G⟩ (fun _=>av.keep ae.nil) fun S a2 T h26=>?_
  simp only [ah,ai,aq,ar] at h26
  refine aa.fin I ?_;clear I
  refine ad fun _ J=>ag 2 3 ?_
  refine aE rr rr<|aV rr rr<|aa.fin J ?_;clear J
  refine W.ret (aB ?_)
  subst r
  refine ax.mk (.bD rr .nil) ?_
  exact ⟨i,j,(cG s1 0 f.toNat ++cG s1 d.toNat s1.length).length,g,S,rr,h26,T⟩
theorem CT {B:Nat} {w0:aC} {w:World} {L:List Rg} {s1:aZ} {a:Option Addr} {b:Option Nat} {gw c:Nat} {d:Nat→Value} (g:LO bB [] a b gw c d s1) {r:(aZ)} (o:qV s1 r) (p:St B w0 (gL b (c*34) d::L) w):
  Calls Tryz.prog 35 #[.slice a gw c] w fun e w'=>∃h:Option Addr,∃i:Option Nat,∃j f:Nat,∃k:Nat→Value,e= .returned (.slice h j f)∧St B w0 (gL i (f*34) k::L) w'∧LO bB [] h i j f k r:=by
 refine W.enter 9 Tryz.func35 rr rr rr ?_
 unfold qV at o
 have q:=g.hl;subst q
 refine ad fun _ l=>ag 1 1 ?_
 refine aV rr rr<|aa.fin l ?_;clear l
 refine ad fun _ m=>ag 7 127 ?_
 refine aE rr rr<|aE rr rr<|aa.len iN rr rr<|aE rr rr<|aa.len iN rr rr ?_
 refine Bk (D:=bB) (sz:=34) p 0 g rr gY rr rr ⟨_,rr⟩ ⟨_,rr⟩ rr fun s n=>?_
 simp only [ah,ai,aq,ar] at n
 refine aV rr rr<|aa.fin m ?_;clear m
 refine W.ret (aB ?_)
 subst r
 refine ax.mk (.bD rr .nil) ?_
 exact ⟨a,b,s1.length,s1.length,d,rr,n,s⟩
end Go.Proofs.YtjclppnbbpnfnaaGreatDoor
