/-
 WALKS of the package's functions, printed by this session's own program (auto.py).
-/
import Derived.Test.YtjclppnbbpnfnaaGreatDoorWF
import Derived.Test.YtjclppnbbpnfnaaGreatDoorProg
import Derived.Test.YtjclppnbbpnfnaaGreatDoorEd
import Derived.Test.YtjclppnbbpnfnaaGreatDoorRSeal
import Derived.Test.YtjclppnbbpnfnaaGreatDoorEls
import Derived.Test.YtjclppnbbpnfnaaGreatDoorWAes
import Derived.Test.YtjclppnbbpnfnaaGreatDoorWKdf
import Derived.Test.YtjclppnbbpnfnaaGreatDoorWWire
namespace Go.Proofs.YtjclppnbbpnfnaaGreatDoor
set_option linter.unusedSimpArgs false
set_option linter.unusedVariables false
set_option linter.unusedSectionVars false
set_option maxRecDepth 8000
set_option maxHeartbeats 1000000
open Go Go.LW
theorem kF {B:Nat} {w0:aC} {w:World} {L:List Rg} {iG1:Nat} (H:gT L iG1 1 8 .u32 cH) {iG2:Nat} (I:gT L iG2 2 64 .u32 bE) {a4:K8} {r:((List af)×K8×Nat) ⊕ ((List af)×K8×Nat) ⊕ (K8×K8×K8×K8×(List af)×K8×Nat)} (d:h4 a4 r) (f1:St B w0 (L) w):
  Calls Tryz.prog 73 #[AG [p8 32 a4]] w fun e w'=>match r with | .inl z=>∃l:Option Addr,∃a5:Option Nat,∃o j:Nat,∃a9:Nat→af,e= .returned (.tuple #[.pointer none,.slice l o j,AG [p8 16 z.2.1],VN z.2.2])∧St B w0 (gO a5 j a9::L) w'∧Ow l a5 o j a9 z.1 | .inr (.inl z)=>∃t:Rg,∃l:Option Addr,∃o j:Nat,e= .returned (.tuple #[.pointer none,.slice l o j,AG [p8 16 z.2.1],VN z.2.2])∧St B w0 (t::L) w'∧Bx (t::L) 0 l o j z.1 | .inr (.inr z)=>∃k:Nat,∃t:Rg,∃l:Option Addr,∃o j:Nat,e= .returned (.tuple #[pt k 0,.slice l o j,AG [p8 16 z.2.2.2.2.2.1],VN z.2.2.2.2.2.2])∧St B w0 (g8 k 0 240 z.1::g8 k 240 256 z.2.1::g8 k 496 256 z.2.2.1::g8 k 752 256 z.2.2.2.1::t::L) w'∧Bx (g8 k 0 240 z.1::g8 k 240 256 z.2.1::g8 k 496 256 z.2.2.1::g8 k 752 256 z.2.2.2.1::t::L) 4 l o j z.2.2.2.2.1:=by
 refine W.enter 36 Tryz.func73 rr rr rr ?_
 unfold h4 at d
 refine ad fun _ be=>ag 5 22 ?_
 refine bp f1 rr rr ae.nil fun is it i0 h3=>?_
 simp only [ao,Nat.zero_add,Nat.reduceAdd,ah,ai] at h3
 refine cA rr rr<|aV rr rr ?_
 refine aa.alloc h3 rr fX ae.nil fun bi i1 i2 bv=>?_
 simp only [ao,Nat.zero_add,Nat.reduceAdd,ah,ai] at bv
 refine ak rr rr<|aa.fin be ?_;clear be
 refine ad fun _ cd=>?_
 obtain ⟨y,g,f2,f3⟩:=d
 refine bq (fun e w=>∃J:Nat,∃u:List af,(y=J∧g=u)∧∃s:Option Addr,∃v:Option Nat,∃h:Nat,∃x:Nat→af,aU e [(4,pt bi 0),(5,VN J),(6,.slice s u.length h)]∧St B w0 (gO v h x::g8 bi 0 16 (fun _=>0#8)::L) w∧Ow s v u.length h x u) ?_ ?_
 ·
  replace d:=f2
  refine mI a7 (.fork (dg [3]) (.line (dg [0,4,6,8,11,13,15,17,19])) (.fork (dg [4]) (.line (dg [0,6,8,11,13,15,17,19])) (.line (dg [6,0,8,11,13,15,17,19])))) (by kernel_rfl) (dJ ?_)
  have ce:=bv.drew
  refine c8 (lo:=0) (hi:=32) (m:=32) (c:=32) (o':=0) c' rr rr rr rr (by omega) (by omega) (by omega) (by omega) ?_
  obtain ⟨K,M,N,d⟩:=d
  refine dK ?_ ?_
  ·
   refine dd ?_
   refine j0 (len:=32) (c:=32) ce eY rr rr rr (by omega) (by omega) (fun _=>av.keep ae.nil) fun i3 i4 i5 f4 f5=>?_
   refine l6 ae.nil f5 (f:=fun q=>VU .u8 (lit ([108#8,101#8,116#8,104#8,101#8,32#8,115#8,101#8,97#8,108#8]:List af) q)) cq cw bJ df (by decide) (by decide) rr (fun _=>rr) (fun _=>rr) rr (by kernel_rfl) fun i6 i7 i8 f6=>?_
   refine aw j6 (jm (iG1:=iG1+4) H (iG2:=iG2+4) I (by exact (f4.bx 1 rr)) (by exact (bH (n:=32) (cc:=32) 3 rr (by omega) (by omega))) (by exact (bH (n:=10) (cc:=10) 0 rr (by omega) (by omega))) N f6) ?_
   rintro _ i9 ⟨f7,f8,jd,f9,gc,rfl,ci,O⟩
   try dsimp only at O
   obtain rfl:=O.hl
   refine ⟨_,rr,.inl ⟨ae.keep (by exact ae.nil) ci,?_⟩⟩
   refine bK rr rr<|dh rr rr rr<|b' rr rr rr<|aV rr rr<|ak rr rr<|aa.nil ?_
   exact ⟨M,K,d,f7,f8,f9,gc,(ab (ab (ab au))),bt 5 [0,3] ci,O⟩
  ·
   refine dJ ?_
   refine yF ae.nil ce (f:=fun q=>VU .u8 (lit ([108#8,101#8,116#8,104#8,101#8,32#8,115#8,101#8,97#8,108#8]:List af) q)) cq bJ df (by decide) (by decide) rr rr (by kernel_rfl) fun jp kk cl co cs=>?_
   refine dK ?_ ?_
   ·
    refine dd ?_
    refine xA (m:=32) (c:=32) ae.nil cs eY rr rr rr (by omega) (by omega) fun kw lc ld gd ge go=>?_
    have gs:=gd _ _ co
    refine pe ae.nil go cl gs cq cw rr rr fun le gt=>?_
    refine aw j6 (jm (iG1:=iG1+4) H (iG2:=iG2+4) I (by exact (ge.bx 0 rr)) (by exact (bH (n:=32) (cc:=32) 3 rr (by omega) (by omega))) (by exact (bH (n:=10) (cc:=10) 1 rr (by omega) (by omega))) N gt) ?_
    rintro _ li ⟨g0,g1,lm,g2,g3,rfl,c1,P⟩
    try dsimp only at P
    obtain rfl:=P.hl
    refine ⟨_,rr,.inl ⟨ae.keep (by exact ae.nil) c1,?_⟩⟩
    refine bK rr rr<|dh rr rr rr<|b' rr rr rr<|aV rr rr<|ak rr rr<|aa.nil ?_
    exact ⟨M,K,d,g0,g1,g2,g3,(ab (ab (ab au))),bt 5 [0,3] c1,P⟩
   ·
    refine dd ?_
    refine pe ae.nil cs cl co cq cw rr rr fun ls g4=>?_
    refine j0 (len:=32) (c:=32) g4 eY rr rr rr (by omega) (by omega) (fun _=>av.keep ae.nil) fun lt lw md g5 g6=>?_
    refine aw j6 (jm (iG1:=iG1+4) H (iG2:=iG2+4) I (by exact (g5.bx 0 rr)) (by exact (bH (n:=32) (cc:=32) 3 rr (by omega) (by omega))) (by exact (bH (n:=10) (cc:=10) 1 rr (by omega) (by omega))) N g6) ?_
    rintro _ mp ⟨g7,g9,ms,he,hk,rfl,c2,Q⟩
    try dsimp only at Q
    obtain rfl:=Q.hl
    refine ⟨_,rr,.inl ⟨ae.keep (by exact ae.nil) c2,?_⟩⟩
    refine bK rr rr<|dh rr rr rr<|b' rr rr rr<|aV rr rr<|ak rr rr<|aa.nil ?_
    exact ⟨M,K,d,g7,g9,he,hk,(ab (ab (ab au))),bt 5 [0,3] c2,Q⟩
 ·
  rintro hm mt ⟨J,u,⟨hu,hw⟩,s,v,h,x,hH,R,i⟩
  subst hu
  subst hw
  obtain ⟨hm,rfl⟩:=hH.open
  replace d:=f3
  refine cd _ _ ?_;clear cd
  refine ad fun _ dl=>ad fun _ ds=>?_
  refine ag 2 3 ?_
  refine aj rr rr<|aR (a:=(((y:Nat):Int):Int)) (b:=(0:Int)) (p:=y≠0) rr rr rr rr cm<|aa.fin ds ?_;clear ds
  by_cases A:y≠0
  ·
   replace d:=aA d A
   refine aG (congrArg Value.bool (decide_eq_true A)) ?_
   refine ad fun _ d0=>?_
   refine bd a7 [1,3,5,7,8,11] ?_
   have d1:=R.drew
   refine aP d1 1 rr rr rr dq<|aj rr rr<|cA rr rr<|aV rr rr ?_
   refine aY (f':=fun q=>VU .u8 ((fun _=>0#8) q)) d1 1 rr rr rr rr (fun _ _=>rr) eI rr fun m0 S=>?_
   simp only [ah,ai,aq,ar] at S
   refine ak rr rr<|aa.fin d0 ?_;clear d0
   refine W.ret (a' (aB ?_))
   have hO:=S.cN
   have d2:=St.aF (C:= [_,_,_]) hO [0] (by decide)
   simp only [pick,aL,aK,aM,aJ,ah,ai] at d2
   subst r
   refine ax.mk (.fk rr (.bD rr (.agg S rr (.cons 1 rr .nil) dq (.bj rr .nil)))) ?_
   exact ⟨none,none,0,0,(fun _=>0#8),rr,d2,Ow.nil⟩
  ·
   replace d:=az d A
   refine aO (congrArg Value.bool (decide_eq_false A)) ?_
   refine W.skip ?_
   refine dl _ _ ?_;clear dl
   refine ad fun _ D=>ad fun _ E=>?_
   refine ag 8 251 ?_
   refine aE rr rr ?_
   obtain ⟨d3,d⟩:=d
   have m1:g.length≤h:=i.hc
   refine gF (lo:=0) (hi:=32) b4 rr rr rr ⟨_,rr⟩ (by omega) ?_
   rcases d with ⟨T,U,d⟩ | ⟨m2,m3,m4,m5,V,U,d⟩
   ·
    refine aw wC (yX (by exact ((i.bx 0 rr).aT (lo:=0) (hi:=32) d3)) U R) ?_
    rintro _ m6 ⟨rfl,X⟩
    refine ⟨_,rr,.inl ⟨ae.keep (by exact ae.nil) X,?_⟩⟩
    refine bK rr rr<|hI rr rr rr<|b' rr rr rr<|cA rr rr<|ak rr rr<|aa.fin E ?_;clear E
    refine ad fun _ d4=>ag 2 3 ?_
    refine aj rr rr<|aR (a:=(((T:Nat):Int):Int)) (b:=(0:Int)) (p:=T≠0) rr rr rr rr cm<|aa.fin d4 ?_;clear d4
    by_cases F:T≠0
    ·
     replace d:=aA d F
     refine aG (congrArg Value.bool (decide_eq_true F)) ?_
     refine ad fun _ d5=>?_
     refine bd a7 [1,3,5,7,8,11] ?_
     have d6:=X.drew
     refine aP d6 1 rr rr rr dq<|aj rr rr<|cA rr rr<|aV rr rr ?_
     refine aY (f':=fun q=>VU .u8 ((fun _=>0#8) q)) d6 1 rr rr rr rr (fun _ _=>rr) eI rr fun m7 Y=>?_
     simp only [ah,ai,aq,ar] at Y
     refine ak rr rr<|aa.fin d5 ?_;clear d5
     refine W.ret (a' (aB ?_))
     have h1:=Y.cN
     have d7:=St.aF (C:= [_,_,_]) h1 [0] (by decide)
     simp only [pick,aL,aK,aM,aJ,ah,ai] at d7
     subst r
     refine ax.mk (.fk rr (.bD rr (.agg Y rr (.cons 1 rr .nil) dq (.bj rr .nil)))) ?_
     exact ⟨none,none,0,0,(fun _=>0#8),rr,d7,Ow.nil⟩
    ·
     replace d:=az d F
     refine aO (congrArg Value.bool (decide_eq_false F)) ?_
     refine W.skip ?_
     refine D _ _ ?_;clear D
     refine ad fun _ d8=>?_
     refine bd a7 [1,3,5,7,9,11,13,15,17,18,21] ?_
     have Z:=X.drew
     refine aD rr rr<|aE rr rr ?_
     obtain ⟨id,d⟩:=d
     have m8:g.length≤h:=i.hc
     refine gF (lo:=32) (hi:=64) b4 rr rr ⟨_,rr⟩ ⟨_,rr⟩ (by omega)<|aE rr rr ?_
     obtain ⟨d9,d⟩:=d
     have m9:g.length≤h:=i.hc
     refine gF (lo:=64) (hi:=g.length) b4 rr rr ⟨_,rr⟩ rr (by omega) ?_
     obtain ⟨m',d⟩:=d
     refine sW Z ((i.bx 0 rr).aT (lo:=64) (hi:=g.length) d9) r5 rr rr (by omega) ?_
     refine sZ Z ((i.bx 0 rr).aT (lo:=64) (hi:=g.length) d9) rr rr (by omega) dq fun ne nl=>?_
     refine cA rr rr<|aV rr rr ?_
     refine aY (f':=fun q=>VU .u8 ((lit (aT g 64 g.length)) q)) Z 1 rr rr rr rr (fun _ _=>rr) eI rr fun no am=>?_
     simp only [ah,ai,aq,ar] at am
     refine ak rr rr<|aa.fin d8 ?_;clear d8
     refine W.ret (aB ?_)
     have el:=St.aF (C:= [_,_]) am [0] (by decide)
     simp only [pick,aL,aK,aM,aJ,ah,ai] at el
     subst r
     refine ax.mk (.fk rr (.bD rr (.agg am rr (.cons 1 rr .nil) dq (.bj rr .nil)))) ?_
     exact ⟨gO v h x,(if h=32 then (s:Option Addr) else (s:Option Addr).map (·.add (32*1))),(64 - 32),(h - 32),rr,el,((i.bx 0 rr).aT (lo:=32) (hi:=64) id)⟩
   ·
    refine aw wC (yX (by exact ((i.bx 0 rr).aT (lo:=0) (hi:=32) d3)) U R) ?_
    rintro _ n5 ⟨ii,rfl,ap⟩
    refine ⟨_,rr,.inl ⟨ae.keep (by exact ae.nil) ap,?_⟩⟩
    refine bK rr rr<|hI rr rr rr<|b' rr rr rr<|cA rr rr<|ak rr rr<|aa.fin E ?_;clear E
    refine ad fun _ em=>ag 2 3 ?_
    refine aj rr rr<|aR (a:=(((V:Nat):Int):Int)) (b:=(0:Int)) (p:=V≠0) rr rr rr rr cm<|aa.fin em ?_;clear em
    by_cases G:V≠0
    ·
     replace d:=aA d G
     refine aG (congrArg Value.bool (decide_eq_true G)) ?_
     refine ad fun _ eq=>?_
     refine bd a7 [1,3,5,7,8,11] ?_
     have es:=ap.drew
     refine aP es 5 rr rr rr dq<|aj rr rr<|cA rr rr<|aV rr rr ?_
     refine aY (f':=fun q=>VU .u8 ((fun _=>0#8) q)) es 5 rr rr rr rr (fun _ _=>rr) eI rr fun n6 a0=>?_
     simp only [ah,ai,aq,ar] at a0
     refine ak rr rr<|aa.fin eq ?_;clear eq
     refine W.ret (a' (aB ?_))
     have io:=a0.cN
     have ex:=St.aF (C:= [_,_,_,_,_,_,_]) io [0] (by decide)
     simp only [pick,aL,aK,aM,aJ,ah,ai] at ex
     subst r
     refine ax.mk (.fk rr (.bD rr (.agg a0 rr (.cons 5 rr .nil) dq (.bj rr .nil)))) ?_
     exact ⟨none,none,0,0,(fun _=>0#8),rr,ex,Ow.nil⟩
    ·
     replace d:=az d G
     refine aO (congrArg Value.bool (decide_eq_false G)) ?_
     refine W.skip ?_
     refine D _ _ ?_;clear D
     refine ad fun _ fd=>?_
     refine bd a7 [1,3,5,7,9,11,13,15,17,18,21] ?_
     have a2:=ap.drew
     refine aD rr rr<|aE rr rr ?_
     obtain ⟨ip,d⟩:=d
     have n7:g.length≤h:=i.hc
     refine gF (lo:=32) (hi:=64) b4 rr rr ⟨_,rr⟩ ⟨_,rr⟩ (by omega)<|aE rr rr ?_
     obtain ⟨fn,d⟩:=d
     have n8:g.length≤h:=i.hc
     refine gF (lo:=64) (hi:=g.length) b4 rr rr ⟨_,rr⟩ rr (by omega) ?_
     obtain ⟨ok,d⟩:=d
     refine sW a2 ((i.bx 4 rr).aT (lo:=64) (hi:=g.length) fn) r5 rr rr (by omega) ?_
     refine sZ a2 ((i.bx 4 rr).aT (lo:=64) (hi:=g.length) fn) rr rr (by omega) dq fun ol on=>?_
     refine cA rr rr<|aV rr rr ?_
     refine aY (f':=fun q=>VU .u8 ((lit (aT g 64 g.length)) q)) a2 5 rr rr rr rr (fun _ _=>rr) eI rr fun op a3=>?_
     simp only [ah,ai,aq,ar] at a3
     refine ak rr rr<|aa.fin fd ?_;clear fd
     refine W.ret (aB ?_)
     have f0:=St.aF (C:= [_,_,_,_,_,_]) a3 [0,1,2,3,4] (by decide)
     simp only [pick,aL,aK,aM,aJ,ah,ai] at f0
     subst r
     refine ax.mk (.fk rr (.bD rr (.agg a3 rr (.cons 5 rr .nil) dq (.bj rr .nil)))) ?_
     exact ⟨ii,gO v h x,(if h=32 then (s:Option Addr) else (s:Option Addr).map (·.add (32*1))),(64 - 32),(h - 32),rr,f0,((i.bx 4 rr).aT (lo:=32) (hi:=64) ip)⟩
theorem oL {B:Nat} {w0:aC} {w:World} {L:List Rg} {iG1:Nat} (ds:gT L iG1 1 8 .u32 cH) {iG2:Nat} (d0:gT L iG2 2 64 .u32 bE) {x:List af} {y:Option Addr} {N z d1:Nat} (O:Bx L d1 y N z x) {f:List af} {h:Option Addr} {P l d2:Nat} (Q:Bx L d2 h P l f) {n:List af} {o:Option Addr} {R s d3:Nat} (S:Bx L d3 o R s n) {r:(List af)} (d:jS x f n r) (d4:St B w0 (L) w):
  Calls Tryz.prog 75 #[.slice y N z,.slice h P l,.slice o R s] w fun e w'=>∃T:Option Addr,∃U:Option Nat,∃V F:Nat,∃Z:Nat→af,e= .returned (.slice T V F)∧St B w0 (gO U F Z::L) w'∧Ow T U V F Z r:=by
 refine W.enter 35 Tryz.func75 rr rr rr ?_
 unfold jS at d
 have d5:=O.hl;subst d5
 have d6:=Q.hl;subst d6
 have d7:=S.hl;subst d7
 refine ad fun _ am=>ag 1 1 ?_
 refine aV rr rr<|aa.fin am ?_;clear am
 refine ad fun _ ap=>ag 2 2 ?_
 refine j0 (len:=8) (c:=8) d4 eY rr rr rr (by omega) (by omega) (fun _=>av.keep ae.nil) fun a0 f8 f9 d8 d9=>?_
 refine aV rr rr<|aa.fin ap ?_;clear ap
 refine ad fun _ a2=>ad fun _ a3=>?_
 refine ag 3 7 ?_
 refine aE rr rr<|aa.len cB rr rr<|aj rr rr<|aa.fin a3 ?_;clear a3
 obtain ⟨el,em,eq⟩:=d
 refine bq (fun e w=>∃G:List af,el=G∧∃A:Option Addr,∃H:Option Nat,∃t:Nat,∃I:Nat→af,aU e [(0,.slice y x.length z),(1,.slice h f.length l),(2,.slice o n.length s),(7,.slice A ((List.replicate 8 0#8).length) t)]∧St B w0 (gO H t I::L) w∧Ow A H ((List.replicate 8 0#8).length) t I G) ?_ ?_
 ·
  refine W.block ?_
  refine bS em (fun (a4:((List af)×Nat)) e w=>∃u:Option Addr,∃v:Option Nat,∃g:Nat,∃D:Nat→af,aU e [(0,.slice y x.length z),(1,.slice h f.length l),(2,.slice o n.length s),(7,.slice u ((List.replicate 8 0#8).length) g),(12,VN ((List.replicate 8 0#8).length)),(13,VN a4.2)]∧St B w0 (gO v g D::L) w∧Ow u v ((List.replicate 8 0#8).length) g D a4.1) ⟨some ⟨a0,0,none⟩,some a0,8,(fun _=>0#8),(ab (ab (ab (ab (ab (ab au)))))),d9,d8⟩ ?_
  rintro ⟨J,t31⟩ gc d es ex gd ⟨u,v,g,D,fd,K,M⟩
  obtain ⟨ex,rfl⟩:=fd.open
  unfold qc at d
  refine ad fun _ a5=>ag 1 1 ?_
  refine aR (a:=(((t31:Nat):Int):Int)) (b:=((((List.replicate 8 0#8).length:Nat):Int):Int)) (p:=t31 < (List.replicate 8 0#8).length) rr rr rr rr bW<|aa.fin a5 ?_;clear a5
  refine ad fun _ a9=>?_
  by_cases E:t31 < (List.replicate 8 0#8).length
  ·
   replace d:=aA d E
   refine aG (congrArg Value.bool (decide_eq_true E)) ?_
   refine W.skip ?_
   refine a9 _ _ ?_;clear a9
   refine ad fun _ be=>?_
   refine W.block ?_
   refine ad fun _ bi=>ag 2 3 ?_
   refine aj rr rr<|ak rr rr<|aa.fin bi ?_;clear bi
   refine ag 12 2047 ?_
   refine aE rr rr<|aj rr rr<|aE rr rr<|aa.len cB rr rr<|kf .u64 (a:=f.length) lD e_ rr rr<|aj rr rr ?_
   obtain ⟨ge,d⟩:=d
   refine fr (a:=8) (b:=t31) rr rr rr (by omega) ?_
   obtain ⟨go,d⟩:=d
   refine d' (a:=56) (b:=(((8*t31):Nat):Int)) rr rr rr (by omega) ?_
   obtain ⟨fn,d⟩:=d
   refine cJ .u64 (X:=(BitVec.ofNat 64 f.length)) (c:=(56 - (((8*t31):Nat):Int)).toNat) rr rr (congrArg (Value.int .i64) (Int.toNat_of_nonneg fn).symm)<|dU .u8 (X:=((BitVec.ofNat 64 f.length) >>> ((56 - (((8*t31):Nat):Int)).toNat))) cw p3 rr rr ?_
   obtain ⟨bv,d⟩:=d
   refine ju (j:=t31) K (M.bx 0 rr) b4 rr rr rr bv ?_
   refine rX (j:=t31) (Y:=(((BitVec.ofNat 64 f.length) >>> ((56 - (((8*t31):Nat):Int)).toNat)).setWidth 8)) K 0 M rr rr rr rr bv bJ rr fun gs f0 f1 cc=>?_
   simp only [ah,ai,aq,ar] at cc
   have gt:(J.set t31 (((BitVec.ofNat 64 f.length) >>> ((56 - (((8*t31):Nat):Int)).toNat)).setWidth 8)).length=J.length:=List.length_set
   refine aa.nil ?_
   refine bo ?_
   refine be _ _ ?_;clear be
   refine ag 2 3 ?_
   obtain ⟨g0,d⟩:=d
   refine bu (a:=t31) (b:=1) rr rr rr (by omega)<|aj rr rr<|aa.nil ?_
   exact bG ⟨_,d,u,v,g,f0,(ab (ab (ab (ab (ab (ab au)))))),cc,(show Ow _ _ ((List.replicate 8 0#8).length) _ _ _ from f1)⟩
  ·
   replace d:=az d E
   refine aO (congrArg Value.bool (decide_eq_false E)) ?_
   refine W.exit (bM (bU (bL ?_)))
   exact ⟨J,(es _ d).symm,u,v,g,D,(ab (ab (ab (ab au)))),K,M⟩
 ·
  rintro f2 g1 ⟨G,f3,A,H,t,I,f4,f5,f6⟩
  obtain ⟨f2,rfl⟩:=f4.open
  subst f3
  replace d:=eq
  refine a2 _ _ ?_;clear a2
  refine ad fun _ cd=>ag 8 15 ?_
  refine aE rr rr<|aE rr rr<|aE rr rr<|aE rr rr ?_
  refine aa.buildSlice f5 (ps:= [(3,fun i=> .slice ((fun i=>([h,o,A]:List (Option Addr)).getD i none) i) ((fun i=>([f.length,n.length,(List.replicate 8 0#8).length]:List Nat).getD i 0) i) ((fun i=>([l,s,t]:List Nat).getD i 0) i))]) cV cW cU (by decide) (by decide) rr rr rr (av.keep ae.nil) fun g2 g3 g4 ce=>?_
  simp only [ao,List.cons_append,List.nil_append] at ce
  obtain ⟨ci,f7,d⟩:=d
  refine aw cS (cR (iG1:=iG1+2) ds (iG2:=iG2+2) d0 (O.app [_,_]) (by exact (bR.of 0 rr rr (fun i hi=>match i,hi with | 0,_=>⟨_,(Q.app [_,_])⟩ | 1,_=>⟨_,(S.app [_,_])⟩ | 2,_=>⟨_,(f6.bx 1 rr)⟩ | k+3,hk=>absurd hk (by omega)))) f7 ce) ?_
  rintro _ g5 ⟨rfl,cl⟩
  refine ⟨_,rr,.inl ⟨ae.keep (by exact ae.nil) cl,?_⟩⟩
  refine aa.alloc cl rr dZ ae.nil fun co g6 g7 cs=>?_
  simp only [ao,Nat.zero_add,Nat.reduceAdd,ah,ai] at cs
  refine aY (f':=fun q=>VU .u8 (ci q)) cs 0 rr rr rr rr (fun _ _=>rr) dV rr fun g8 c1=>?_
  simp only [ah,ai,aq,ar] at c1
  refine aa.fin cd ?_;clear cd
  refine ad fun _ c2=>ag 2 3 ?_
  refine c8 (lo:=0) (hi:=32) (m:=32) (c:=32) (o':=0) gQ rr rr rr rr (by omega) (by omega) (by omega) (by omega)<|aV rr rr<|aa.fin c2 ?_;clear c2
  refine W.ret (aB ?_)
  have dl:=St.aF (C:= [_,_,_]) c1 [0] (by decide)
  simp only [pick,aL,aK,aM,aJ,ah,ai] at dl
  subst r
  refine ax.mk (.bD rr .nil) ?_
  exact ⟨some ⟨co,0,none⟩,some co,32,32,ci,rr,dl,Ow.arr⟩
theorem Ek {B:Nat} {w0:aC} {w:World} {L:List Rg} {iG1:Nat} (m:gT L iG1 1 8 .u32 cH) {iG2:Nat} (n:gT L iG2 2 64 .u32 bE) {K:K8} {h:List af} {M:Option Addr} {N O d9:Nat} (P:Bx L d9 M N O h) {d:List af} {Q:Option Addr} {R S el:Nat} (T:Bx L el Q R S d) {r:((List af)×Nat)} (c:nu K h d r) (em:St B w0 (L) w):
  Calls Tryz.prog 39 #[AG [p8 32 K],.slice M N O,.slice Q R S] w fun e w'=>∃U:Option Addr,∃V:Option Nat,∃X A:Nat,∃Y:Nat→af,e= .returned (.tuple #[.slice U X A,VN r.2])∧St B w0 (gO V A Y::L) w'∧Ow U V X A Y r.1:=by
 refine W.enter 42 Tryz.func39 rr rr rr ?_
 unfold nu at c
 have eq:=P.hl;subst eq
 have es:=T.hl;subst es
 refine ad fun _ Z=>ag 3 6 ?_
 refine bp em rr rr ae.nil fun g7 g8 g9 f=>?_
 simp only [ao,Nat.zero_add,Nat.reduceAdd,ah,ai] at f
 refine aV rr rr<|ak rr rr<|aa.fin Z ?_;clear Z
 refine ad fun _ am=>ad fun _ o=>?_
 refine ag 8 255 ?_
 refine aE rr rr<|aa.len cB rr rr ?_
 by_cases s:512 < d.length
 ·
  replace c:=aA c s
  refine bI (a:=(((d.length:Nat):Int):Int)) (b:=(512:Int)) (p:=512 < d.length) (v:=true) rr rr rr rr dL (decide_eq_true s)<|a_ rr rr<|al rr<|al rr<|al rr<|b0 rr rr rr<|aa.fin o ?_;clear o
  refine aG rr ?_
  refine ad fun _ ap=>ag 2 3 ?_
  refine aV rr rr<|ak rr rr<|aa.fin ap ?_;clear ap
  refine W.ret (a' (aB ?_))
  have ex:=f.cN
  have a0:=St.aF (C:= [_,_]) ex [0] (by decide)
  simp only [pick,aL,aK,aM,aJ,ah,ai] at a0
  subst r
  refine ax.mk (.bD rr (.bj rr .nil)) ?_
  exact ⟨none,none,0,0,(fun _=>0#8),rr,a0,Ow.nil⟩
 ·
  replace c:=az c s
  refine bI (a:=(((d.length:Nat):Int):Int)) (b:=(512:Int)) (p:=512 < d.length) (v:=false) rr rr rr rr dL (decide_eq_false s)<|a_ rr rr<|aE rr rr<|aa.len cB rr rr<|aR (a:=(((h.length:Nat):Int):Int)) (b:=(65535:Int)) (p:=65535 < h.length) rr rr rr rr dL<|ca rr rr rr<|aa.fin o ?_;clear o
  by_cases t:65535 < h.length
  ·
   replace c:=aA c t
   refine aG (congrArg Value.bool (decide_eq_true t)) ?_
   refine ad fun _ a2=>ag 2 3 ?_
   refine aV rr rr<|ak rr rr<|aa.fin a2 ?_;clear a2
   refine W.ret (a' (aB ?_))
   have fd:=f.cN
   have a3:=St.aF (C:= [_,_]) fd [0] (by decide)
   simp only [pick,aL,aK,aM,aJ,ah,ai] at a3
   subst r
   refine ax.mk (.bD rr (.bj rr .nil)) ?_
   exact ⟨none,none,0,0,(fun _=>0#8),rr,a3,Ow.nil⟩
  ·
   replace c:=az c t
   refine aO (congrArg Value.bool (decide_eq_false t)) ?_
   refine W.skip ?_
   refine am _ _ ?_;clear am
   refine ad fun _ g=>ag 12 2941 ?_
   refine aP f 0 rr rr rr ba ?_
   rcases c with ⟨he,fn,D,l,c⟩ | ⟨hm,f0,E,l,c⟩ | ⟨hu,hw,hH,hO,h1,f1,F,l,c⟩
   ·
    refine aw kK (kF (iG1:=iG1+1) m (iG2:=iG2+1) n l f) ?_
    rintro _ id ⟨ii,io,ip,is,it,rfl,f2,a4⟩
    try dsimp only at a4
    obtain rfl:=a4.hl
    refine ⟨_,rr,.inr ⟨rr,?_⟩⟩
    refine bK rr rr<|hI rr rr rr<|dh rr rr rr<|b5 rr rr rr<|b' rr rr rr ?_
    refine aa.alloc f2 rr fX ae.nil fun i0 i1 i2 a5=>?_
    simp only [ao,Nat.zero_add,Nat.reduceAdd,ah,ai] at a5
    refine cA rr rr<|aV rr rr ?_
    refine aY (f':=fun q=>VU .u8 (fn q)) a5 0 rr rr rr rr (fun _ _=>rr) eI rr fun i3 G=>?_
    simp only [ah,ai,aq,ar] at G
    refine ak rr rr<|aa.fin g ?_;clear g
    refine ad fun _ a9=>ad fun _ be=>?_
    refine ag 2 3 ?_
    refine aj rr rr<|aR (a:=(((D:Nat):Int):Int)) (b:=(0:Int)) (p:=D≠0) rr rr rr rr cm<|aa.fin be ?_;clear be
    by_cases u:D≠0
    ·
     replace c:=aA c u
     refine aG (congrArg Value.bool (decide_eq_true u)) ?_
     refine ad fun _ bi=>ag 3 7 ?_
     refine aj rr rr<|aV rr rr<|ak rr rr<|aa.fin bi ?_;clear bi
     refine W.ret (a' (aB ?_))
     have f3:=G.cN
     have bv:=St.aF (C:= [_,_,_,_]) f3 [0] (by decide)
     simp only [pick,aL,aK,aM,aJ,ah,ai] at bv
     subst r
     refine ax.mk (.bD rr (.bj rr .nil)) ?_
     exact ⟨none,none,0,0,(fun _=>0#8),rr,bv,Ow.nil⟩
    ·
     replace c:=az c u
     refine aO (congrArg Value.bool (decide_eq_false u)) ?_
     refine W.skip ?_
     refine a9 _ _ ?_;clear a9
     refine ad fun _ i4=>ag 5 23 ?_
     refine aD rr rr<|aP G 0 rr rr rr dq<|aE rr rr ?_
     exact c.elim
   ·
    refine aw kK (kF (iG1:=iG1+1) m (iG2:=iG2+1) n l f) ?_
    rintro _ i5 ⟨i6,i7,i8,i9,rfl,f4,cc⟩
    try dsimp only at cc
    obtain rfl:=cc.hl
    refine ⟨_,rr,.inr ⟨rr,?_⟩⟩
    refine bK rr rr<|hI rr rr rr<|dh rr rr rr<|b5 rr rr rr<|b' rr rr rr ?_
    refine aa.alloc f4 rr fX ae.nil fun jd jp kk cd=>?_
    simp only [ao,Nat.zero_add,Nat.reduceAdd,ah,ai] at cd
    refine cA rr rr<|aV rr rr ?_
    refine aY (f':=fun q=>VU .u8 (f0 q)) cd 0 rr rr rr rr (fun _ _=>rr) eI rr fun kw H=>?_
    simp only [ah,ai,aq,ar] at H
    refine ak rr rr<|aa.fin g ?_;clear g
    refine ad fun _ ce=>ad fun _ ci=>?_
    refine ag 2 3 ?_
    refine aj rr rr<|aR (a:=(((E:Nat):Int):Int)) (b:=(0:Int)) (p:=E≠0) rr rr rr rr cm<|aa.fin ci ?_;clear ci
    by_cases x:E≠0
    ·
     replace c:=aA c x
     refine aG (congrArg Value.bool (decide_eq_true x)) ?_
     refine ad fun _ cl=>ag 3 7 ?_
     refine aj rr rr<|aV rr rr<|ak rr rr<|aa.fin cl ?_;clear cl
     refine W.ret (a' (aB ?_))
     have f5:=H.cN
     have co:=St.aF (C:= [_,_,_,_]) f5 [0] (by decide)
     simp only [pick,aL,aK,aM,aJ,ah,ai] at co
     subst r
     refine ax.mk (.bD rr (.bj rr .nil)) ?_
     exact ⟨none,none,0,0,(fun _=>0#8),rr,co,Ow.nil⟩
    ·
     replace c:=az c x
     refine aO (congrArg Value.bool (decide_eq_false x)) ?_
     refine W.skip ?_
     refine ce _ _ ?_;clear ce
     refine ad fun _ lc=>ag 5 23 ?_
     refine aD rr rr<|aP H 0 rr rr rr dq<|aE rr rr ?_
     exact c.elim
   ·
    refine aw kK (kF (iG1:=iG1+1) m (iG2:=iG2+1) n l f) ?_
    rintro _ ld ⟨le,li,lm,lo,ls,rfl,f6,I⟩
    try dsimp only at I
    obtain rfl:=I.hl
    refine ⟨_,rr,.inr ⟨rr,?_⟩⟩
    refine bK rr rr<|hI rr rr rr<|dh rr rr rr<|b5 rr rr rr<|b' rr rr rr ?_
    refine aa.alloc f6 rr fX ae.nil fun lt lw md cs=>?_
    simp only [ao,Nat.zero_add,Nat.reduceAdd,ah,ai] at cs
    refine cA rr rr<|aV rr rr ?_
    refine aY (f':=fun q=>VU .u8 (f1 q)) cs 0 rr rr rr rr (fun _ _=>rr) eI rr fun mp y=>?_
    simp only [ah,ai,aq,ar] at y
    refine ak rr rr<|aa.fin g ?_;clear g
    refine ad fun _ c1=>ad fun _ c2=>?_
    refine ag 2 3 ?_
    refine aj rr rr<|aR (a:=(((F:Nat):Int):Int)) (b:=(0:Int)) (p:=F≠0) rr rr rr rr cm<|aa.fin c2 ?_;clear c2
    by_cases z:F≠0
    ·
     replace c:=aA c z
     refine aG (congrArg Value.bool (decide_eq_true z)) ?_
     refine ad fun _ dl=>ag 3 7 ?_
     refine aj rr rr<|aV rr rr<|ak rr rr<|aa.fin dl ?_;clear dl
     refine W.ret (a' (aB ?_))
     have f7:=y.cN
     have ds:=St.aF (C:= [_,_,_,_,_,_,_,_]) f7 [0] (by decide)
     simp only [pick,aL,aK,aM,aJ,ah,ai] at ds
     subst r
     refine ax.mk (.bD rr (.bj rr .nil)) ?_
     exact ⟨none,none,0,0,(fun _=>0#8),rr,ds,Ow.nil⟩
    ·
     replace c:=az c z
     refine aO (congrArg Value.bool (decide_eq_false z)) ?_
     refine W.skip ?_
     refine c1 _ _ ?_;clear c1
     refine ad fun _ d0=>ag 5 23 ?_
     refine aD rr rr<|aP y 0 rr rr rr dq<|aE rr rr ?_
     have d1:=St.aF (C:= [_,_,_,_,_,_,_]) y [1,2,3,4,0,5,6] (by decide)
     simp only [pick,aL,aK,aM,aJ,ah,ai] at d1
     obtain ⟨f8,f9,c⟩:=c
     refine aw wu (wz (T.app [_,_,_]) f9 d1) ?_
     rintro _ ms ⟨gc,mt,m0,gd,m1,rfl,ge,J⟩
     obtain rfl:=J.hl
     refine ⟨_,rr,.inr ⟨rr,?_⟩⟩
     refine aV rr rr<|aa.fin d0 ?_;clear d0
     refine ad fun _ d2=>ag 9 399 ?_
     refine aE rr rr<|aE rr rr<|aE rr rr<|aE rr rr ?_
     obtain ⟨go,gs,c⟩:=c
     refine aw oU (oL (iG1:=iG1+8) m (iG2:=iG2+8) n (by exact (Bx.move (j:=6) I rr rr)) (P.app [_,_,_,_,_,_,_,_]) (by exact (J.bx 0 rr)) gs ge) ?_
     rintro _ m2 ⟨gt,m3,m4,g0,m5,rfl,d3,d4⟩
     obtain rfl:=d4.hl
     refine ⟨_,rr,.inl ⟨ae.keep (by exact ae.nil) d3,?_⟩⟩
     refine aa.buildSlice d3 (ps:= [(2,fun i=> .slice ((fun i=>([gc,gt]:List (Option Addr)).getD i none) i) ((fun i=>([f8.length,go.length]:List Nat).getD i 0) i) ((fun i=>([gd,g0]:List Nat).getD i 0) i))]) cV cW cU (by decide) (by decide) rr rr rr (av.keep ae.nil) fun m6 m7 m8 d5=>?_
     simp only [ao,List.cons_append,List.nil_append] at d5
     obtain ⟨g1,g2,c⟩:=c
     refine aw xZ (ve (by exact (bR.of 0 rr rr (fun i hi=>match i,hi with | 0,_=>⟨_,(J.bx 2 rr)⟩ | 1,_=>⟨_,(d4.bx 1 rr)⟩ | k+2,hk=>absurd hk (by omega)))) g2 d5) ?_
     rintro _ m9 ⟨g3,g4,m',g5,g6,rfl,d6,d7⟩
     obtain rfl:=d7.hl
     refine ⟨_,rr,.inl ⟨ae.keep (by exact ae.nil) d6,?_⟩⟩
     refine aV rr rr<|ak rr rr<|aa.fin d2 ?_;clear d2
     refine W.ret (aB ?_)
     have d8:=St.aF (C:= [_,_,_,_,_,_,_,_,_,_,_]) d6 [0] (by decide)
     simp only [pick,aL,aK,aM,aJ,ah,ai] at d8
     subst r
     refine ax.mk (.bD rr (.bj rr .nil)) ?_
     exact ⟨g3,g4,g1.length,g5,g6,rr,d8,d7⟩
theorem x1 {B:Nat} {w0:aC} {w:World} {L:List Rg} {iG1:Nat} (h:gT L iG1 1 8 .u32 cH) {iG2:Nat} (i:gT L iG2 2 64 .u32 bE) {T:K8} {l:List af} {U:Option Addr} {V X ge:Nat} (n:Bx L ge U V X l) {d:List af} {Y:Option Addr} {Z am go:Nat} (f:Bx L go Y Z am d) {r:((List af)×Nat)} (c:jb T l d r) (gs:St B w0 (L) w):
  Calls Tryz.prog 94 #[AG [p8 32 T],.slice U V X,.slice Y Z am] w fun e w'=>∃ap:Option Addr,∃a0:Option Nat,∃a2 F:Nat,∃a3:Nat→af,e= .returned (.tuple #[.slice ap a2 F,VN r.2])∧St B w0 (gO a0 F a3::L) w'∧Ow ap a0 a2 F a3 r.1:=by
 refine W.enter 54 Tryz.func94 rr rr rr ?_
 unfold jb at c
 have gt:=n.hl;subst gt
 have g0:=f.hl;subst g0
 refine ad fun _ a4=>ag 3 6 ?_
 refine bp gs rr rr ae.nil fun ne nl no g=>?_
 simp only [ao,Nat.zero_add,Nat.reduceAdd,ah,ai] at g
 refine aV rr rr<|ak rr rr<|aa.fin a4 ?_;clear a4
 refine ad fun _ a5=>ag 4 15 ?_
 refine aE rr rr<|aa.len cB rr rr ?_
 obtain ⟨n5,c⟩:=c
 refine d' (a:=((d.length:Nat):Int)) (b:=32) rr rr rr (by omega)<|ak rr rr<|aa.fin a5 ?_;clear a5
 refine ad fun _ a9=>?_
 refine W.block ?_
 refine ad fun _ be=>ag 3 7 ?_
 refine aj rr rr<|aR (a:=((((d.length:Nat):Int) - 32):Int)) (b:=(0:Int)) (p:=(((d.length:Nat):Int) - 32) < 0) rr rr rr rr fE<|a8 rr rr<|aa.fin be ?_;clear be
 by_cases o:(((d.length:Nat):Int) - 32) < 0
 ·
  replace c:=aA c o
  refine aG (congrArg Value.bool (decide_eq_true o)) ?_
  refine ad fun _ bi=>ag 2 3 ?_
  refine aV rr rr<|ak rr rr<|aa.fin bi ?_;clear bi
  refine W.ret (dD (a' (aB ?_)))
  have g1:=g.cN
  have bv:=St.aF (C:= [_,_]) g1 [0] (by decide)
  simp only [pick,aL,aK,aM,aJ,ah,ai] at bv
  subst r
  refine ax.mk (.bD rr (.bj rr .nil)) ?_
  exact ⟨none,none,0,0,(fun _=>0#8),rr,bv,Ow.nil⟩
 ·
  replace c:=az c o
  refine aO (congrArg Value.bool (decide_eq_false o)) ?_
  refine ad fun _ s=>ag 8 255 ?_
  refine aj rr rr ?_
  by_cases t:512 < (((d.length:Nat):Int) - 32)
  ·
   replace c:=aA c t
   refine bI (a:=((((d.length:Nat):Int) - 32):Int)) (b:=(512:Int)) (p:=512 < (((d.length:Nat):Int) - 32)) (v:=true) rr rr rr rr fw (decide_eq_true t)<|a_ rr rr<|al rr<|al rr<|al rr<|b0 rr rr rr<|a8 rr rr<|aa.fin s ?_;clear s
   refine aG rr ?_
   refine ad fun _ cc=>ag 2 3 ?_
   refine aV rr rr<|ak rr rr<|aa.fin cc ?_;clear cc
   refine W.ret (dD (a' (aB ?_)))
   have g2:=g.cN
   have h26:=St.aF (C:= [_,_]) g2 [0] (by decide)
   simp only [pick,aL,aK,aM,aJ,ah,ai] at h26
   subst r
   refine ax.mk (.bD rr (.bj rr .nil)) ?_
   exact ⟨none,none,0,0,(fun _=>0#8),rr,h26,Ow.nil⟩
  ·
   replace c:=az c t
   refine bI (a:=((((d.length:Nat):Int) - 32):Int)) (b:=(512:Int)) (p:=512 < (((d.length:Nat):Int) - 32)) (v:=false) rr rr rr rr fw (decide_eq_false t)<|a_ rr rr<|aE rr rr<|aa.len cB rr rr<|aR (a:=(((l.length:Nat):Int):Int)) (b:=(65535:Int)) (p:=65535 < l.length) rr rr rr rr dL<|ca rr rr rr<|a8 rr rr<|aa.fin s ?_;clear s
   by_cases u:65535 < l.length
   ·
    replace c:=aA c u
    refine aG (congrArg Value.bool (decide_eq_true u)) ?_
    refine ad fun _ cd=>ag 2 3 ?_
    refine aV rr rr<|ak rr rr<|aa.fin cd ?_;clear cd
    refine W.ret (dD (a' (aB ?_)))
    have h29:=g.cN
    have h30:=St.aF (C:= [_,_]) h29 [0] (by decide)
    simp only [pick,aL,aK,aM,aJ,ah,ai] at h30
    subst r
    refine ax.mk (.bD rr (.bj rr .nil)) ?_
    exact ⟨none,none,0,0,(fun _=>0#8),rr,h30,Ow.nil⟩
   ·
    replace c:=az c u
    refine aO (congrArg Value.bool (decide_eq_false u)) ?_
    refine W.skip ?_
    refine bo ?_
    refine a9 _ _ ?_;clear a9
    refine ad fun _ k=>ag 12 2941 ?_
    refine aP g 0 rr rr rr ba ?_
    rcases c with ⟨n6,g3,G,m,c⟩ | ⟨n7,g4,H,m,c⟩ | ⟨n8,ok,ol,on,op,g5,I,m,c⟩
    ·
     refine aw kK (kF (iG1:=iG1+1) h (iG2:=iG2+1) i m g) ?_
     rintro _ or ⟨os,o',pi,pl,pm,rfl,g6,J⟩
     try dsimp only at J
     obtain rfl:=J.hl
     refine ⟨_,rr,.inr ⟨rr,?_⟩⟩
     refine bK rr rr<|hI rr rr rr<|dh rr rr rr<|b5 rr rr rr<|b' rr rr rr ?_
     refine aa.alloc g6 rr fX ae.nil fun pp ps pu ce=>?_
     simp only [ao,Nat.zero_add,Nat.reduceAdd,ah,ai] at ce
     refine cA rr rr<|aV rr rr ?_
     refine aY (f':=fun q=>VU .u8 (g3 q)) ce 0 rr rr rr rr (fun _ _=>rr) eI rr fun qr K=>?_
     simp only [ah,ai,aq,ar] at K
     refine ak rr rr<|aa.fin k ?_;clear k
     refine ad fun _ ci=>ad fun _ cl=>?_
     refine ag 2 3 ?_
     refine aj rr rr<|aR (a:=(((G:Nat):Int):Int)) (b:=(0:Int)) (p:=G≠0) rr rr rr rr cm<|aa.fin cl ?_;clear cl
     by_cases x:G≠0
     ·
      replace c:=aA c x
      refine aG (congrArg Value.bool (decide_eq_true x)) ?_
      refine ad fun _ co=>ag 3 7 ?_
      refine aj rr rr<|aV rr rr<|ak rr rr<|aa.fin co ?_;clear co
      refine W.ret (a' (aB ?_))
      have g7:=K.cN
      have cs:=St.aF (C:= [_,_,_,_]) g7 [0] (by decide)
      simp only [pick,aL,aK,aM,aJ,ah,ai] at cs
      subst r
      refine ax.mk (.bD rr (.bj rr .nil)) ?_
      exact ⟨none,none,0,0,(fun _=>0#8),rr,cs,Ow.nil⟩
     ·
      replace c:=az c x
      refine aO (congrArg Value.bool (decide_eq_false x)) ?_
      refine W.skip ?_
      refine ci _ _ ?_;clear ci
      refine ad fun _ c1=>ad fun _ c2=>?_
      refine bd a7 [1,3,5,7,9,11,13,15,16,18,21] ?_
      have g8:=K.drew
      refine aE rr rr<|aj rr rr ?_
      obtain ⟨g9,c⟩:=c
      obtain ⟨he,c⟩:=c
      refine e6 (lo:=(((d.length:Nat):Int) - 32).toNat) (hi:=d.length) f b4 rr rr ⟨_,congrArg (Value.int .i64) (Int.toNat_of_nonneg g9).symm⟩ rr he fun rc rd hk=>?_
      refine aE rr rr<|aE rr rr<|aE rr rr<|aj rr rr ?_
      obtain ⟨hm,c⟩:=c
      obtain ⟨hu,c⟩:=c
      refine e6 (lo:=0) (hi:=(((d.length:Nat):Int) - 32).toNat) f b4 rr rr rr ⟨_,congrArg (Value.int .i64) (Int.toNat_of_nonneg hm).symm⟩ hu fun rg ro hw=>?_
      obtain ⟨rs,hH,c⟩:=c
      refine aw oU (oL (iG1:=iG1+3) h (iG2:=iG2+3) i (by exact (J.bx 1 rr)) (n.app [_,_,_]) (hw.app [_,_,_]) hH g8) ?_
      rintro _ rt ⟨rx,sp,st,sz,s1,rfl,dl,ds⟩
      obtain rfl:=ds.hl
      refine ⟨_,rr,.inl ⟨ae.keep (by exact ae.nil) dl,?_⟩⟩
      obtain ⟨hO,h1,c⟩:=c
      refine aw rU (rZ (hk.app [_,_,_,_]) (by exact (ds.bx 0 rr)) h1 dl) ?_
      rintro _ s2 ⟨rfl,M⟩
      refine ⟨_,rr,.inl ⟨ae.keep (by exact ae.nil) M,?_⟩⟩
      refine aa.not rr rr<|aa.fin c2 ?_;clear c2
      by_cases y:hO=true
      ·
       replace c:=aA c y
       refine aO (congrArg Value.bool (congrArg Bool.not y)) ?_
       refine W.skip ?_
       refine c1 _ _ ?_;clear c1
       refine ad fun _ s3=>?_
       refine bd a7 [1,3,5,7,9,10,13,15] ?_
       have id:=M.drew
       refine aD rr rr<|aP id 1 rr rr rr dq<|aE rr rr<|aj rr rr ?_
       obtain ⟨ii,c⟩:=c
       obtain ⟨io,c⟩:=c
       refine e6 (lo:=0) (hi:=(((d.length:Nat):Int) - 32).toNat) f b4 rr rr rr ⟨_,congrArg (Value.int .i64) (Int.toNat_of_nonneg ii).symm⟩ io fun a85 s4 s5=>?_
       exact c.elim
      ·
       replace c:=az c y
       refine aG (congrArg Value.bool (congrArg Bool.not (Bool.eq_false_iff.2 y))) ?_
       refine ad fun _ d0=>ag 2 3 ?_
       refine aV rr rr<|ak rr rr<|aa.fin d0 ?_;clear d0
       refine W.ret (a' (aB ?_))
       have ip:=M.cN
       have d1:=St.aF (C:= [_,_,_,_,_]) ip [0] (by decide)
       simp only [pick,aL,aK,aM,aJ,ah,ai] at d1
       subst r
       refine ax.mk (.bD rr (.bj rr .nil)) ?_
       exact ⟨none,none,0,0,(fun _=>0#8),rr,d1,Ow.nil⟩
    ·
     refine aw kK (kF (iG1:=iG1+1) h (iG2:=iG2+1) i m g) ?_
     rintro _ s6 ⟨s7,s8,s9,s',rfl,is,N⟩
     try dsimp only at N
     obtain rfl:=N.hl
     refine ⟨_,rr,.inr ⟨rr,?_⟩⟩
     refine bK rr rr<|hI rr rr rr<|dh rr rr rr<|b5 rr rr rr<|b' rr rr rr ?_
     refine aa.alloc is rr fX ae.nil fun to ty t0 d2=>?_
     simp only [ao,Nat.zero_add,Nat.reduceAdd,ah,ai] at d2
     refine cA rr rr<|aV rr rr ?_
     refine aY (f':=fun q=>VU .u8 (g4 q)) d2 0 rr rr rr rr (fun _ _=>rr) eI rr fun t1 O=>?_
     simp only [ah,ai,aq,ar] at O
     refine ak rr rr<|aa.fin k ?_;clear k
     refine ad fun _ d3=>ad fun _ d4=>?_
     refine ag 2 3 ?_
     refine aj rr rr<|aR (a:=(((H:Nat):Int):Int)) (b:=(0:Int)) (p:=H≠0) rr rr rr rr cm<|aa.fin d4 ?_;clear d4
     by_cases z:H≠0
     ·
      replace c:=aA c z
      refine aG (congrArg Value.bool (decide_eq_true z)) ?_
      refine ad fun _ d5=>ag 3 7 ?_
      refine aj rr rr<|aV rr rr<|ak rr rr<|aa.fin d5 ?_;clear d5
      refine W.ret (a' (aB ?_))
      have it:=O.cN
      have d6:=St.aF (C:= [_,_,_,_]) it [0] (by decide)
      simp only [pick,aL,aK,aM,aJ,ah,ai] at d6
      subst r
      refine ax.mk (.bD rr (.bj rr .nil)) ?_
      exact ⟨none,none,0,0,(fun _=>0#8),rr,d6,Ow.nil⟩
     ·
      replace c:=az c z
      refine aO (congrArg Value.bool (decide_eq_false z)) ?_
      refine W.skip ?_
      refine d3 _ _ ?_;clear d3
      refine ad fun _ d7=>ad fun _ d8=>?_
      refine bd a7 [1,3,5,7,9,11,13,15,16,18,21] ?_
      have i0:=O.drew
      refine aE rr rr<|aj rr rr ?_
      obtain ⟨i1,c⟩:=c
      obtain ⟨i2,c⟩:=c
      refine e6 (lo:=(((d.length:Nat):Int) - 32).toNat) (hi:=d.length) f b4 rr rr ⟨_,congrArg (Value.int .i64) (Int.toNat_of_nonneg i1).symm⟩ rr i2 fun a107 t2 i3=>?_
      refine aE rr rr<|aE rr rr<|aE rr rr<|aj rr rr ?_
      obtain ⟨i4,c⟩:=c
      obtain ⟨i5,c⟩:=c
      refine e6 (lo:=0) (hi:=(((d.length:Nat):Int) - 32).toNat) f b4 rr rr rr ⟨_,congrArg (Value.int .i64) (Int.toNat_of_nonneg i4).symm⟩ i5 fun t3 t4 i6=>?_
      obtain ⟨t5,i7,c⟩:=c
      refine aw oU (oL (iG1:=iG1+3) h (iG2:=iG2+3) i (by exact (Bx.move (j:=1) N rr rr)) (n.app [_,_,_]) (i6.app [_,_,_]) i7 i0) ?_
      rintro _ t6 ⟨t7,t8,t9,t',ul,rfl,d9,el⟩
      obtain rfl:=el.hl
      refine ⟨_,rr,.inl ⟨ae.keep (by exact ae.nil) d9,?_⟩⟩
      obtain ⟨i8,i9,c⟩:=c
      refine aw rU (rZ (i3.app [_,_,_,_]) (by exact (el.bx 0 rr)) i9 d9) ?_
      rintro _ un ⟨rfl,P⟩
      refine ⟨_,rr,.inl ⟨ae.keep (by exact ae.nil) P,?_⟩⟩
      refine aa.not rr rr<|aa.fin d8 ?_;clear d8
      by_cases A:i8=true
      ·
       replace c:=aA c A
       refine aO (congrArg Value.bool (congrArg Bool.not A)) ?_
       refine W.skip ?_
       refine d7 _ _ ?_;clear d7
       refine ad fun _ up=>?_
       refine bd a7 [1,3,5,7,9,10,13,15] ?_
       have jd:=P.drew
       refine aD rr rr<|aP jd 1 rr rr rr dq<|aE rr rr<|aj rr rr ?_
       obtain ⟨jp,c⟩:=c
       obtain ⟨kk,c⟩:=c
       refine e6 (lo:=0) (hi:=(((d.length:Nat):Int) - 32).toNat) f b4 rr rr rr ⟨_,congrArg (Value.int .i64) (Int.toNat_of_nonneg jp).symm⟩ kk fun a127 us ut=>?_
       exact c.elim
      ·
       replace c:=az c A
       refine aG (congrArg Value.bool (congrArg Bool.not (Bool.eq_false_iff.2 A))) ?_
       refine ad fun _ em=>ag 2 3 ?_
       refine aV rr rr<|ak rr rr<|aa.fin em ?_;clear em
       refine W.ret (a' (aB ?_))
       have kw:=P.cN
       have eq:=St.aF (C:= [_,_,_,_,_]) kw [0] (by decide)
       simp only [pick,aL,aK,aM,aJ,ah,ai] at eq
       subst r
       refine ax.mk (.bD rr (.bj rr .nil)) ?_
       exact ⟨none,none,0,0,(fun _=>0#8),rr,eq,Ow.nil⟩
    ·
     refine aw kK (kF (iG1:=iG1+1) h (iG2:=iG2+1) i m g) ?_
     rintro _ vs ⟨v0,v1,v2,v3,v4,rfl,lc,Q⟩
     try dsimp only at Q
     obtain rfl:=Q.hl
     refine ⟨_,rr,.inr ⟨rr,?_⟩⟩
     refine bK rr rr<|hI rr rr rr<|dh rr rr rr<|b5 rr rr rr<|b' rr rr rr ?_
     refine aa.alloc lc rr fX ae.nil fun v5 v6 v9 es=>?_
     simp only [ao,Nat.zero_add,Nat.reduceAdd,ah,ai] at es
     refine cA rr rr<|aV rr rr ?_
     refine aY (f':=fun q=>VU .u8 (g5 q)) es 0 rr rr rr rr (fun _ _=>rr) eI rr fun wd R=>?_
     simp only [ah,ai,aq,ar] at R
     refine ak rr rr<|aa.fin k ?_;clear k
     refine ad fun _ ex=>ad fun _ fd=>?_
     refine ag 2 3 ?_
     refine aj rr rr<|aR (a:=(((I:Nat):Int):Int)) (b:=(0:Int)) (p:=I≠0) rr rr rr rr cm<|aa.fin fd ?_;clear fd
     by_cases D:I≠0
     ·
      replace c:=aA c D
      refine aG (congrArg Value.bool (decide_eq_true D)) ?_
      refine ad fun _ fn=>ag 3 7 ?_
      refine aj rr rr<|aV rr rr<|ak rr rr<|aa.fin fn ?_;clear fn
      refine W.ret (a' (aB ?_))
      have ld:=R.cN
      have f0:=St.aF (C:= [_,_,_,_,_,_,_,_]) ld [0] (by decide)
      simp only [pick,aL,aK,aM,aJ,ah,ai] at f0
      subst r
      refine ax.mk (.bD rr (.bj rr .nil)) ?_
      exact ⟨none,none,0,0,(fun _=>0#8),rr,f0,Ow.nil⟩
     ·
      replace c:=az c D
      refine aO (congrArg Value.bool (decide_eq_false D)) ?_
      refine W.skip ?_
      refine ex _ _ ?_;clear ex
      refine ad fun _ f1=>ad fun _ f2=>?_
      refine bd a7 [1,3,5,7,9,11,13,15,16,18,21] ?_
      have le:=R.drew
      refine aE rr rr<|aj rr rr ?_
      obtain ⟨li,c⟩:=c
      obtain ⟨lm,c⟩:=c
      refine e6 (lo:=(((d.length:Nat):Int) - 32).toNat) (hi:=d.length) f b4 rr rr ⟨_,congrArg (Value.int .i64) (Int.toNat_of_nonneg li).symm⟩ rr lm fun wf wl ls=>?_
      refine aE rr rr<|aE rr rr<|aE rr rr<|aj rr rr ?_
      obtain ⟨lt,c⟩:=c
      obtain ⟨lw,c⟩:=c
      refine e6 (lo:=0) (hi:=(((d.length:Nat):Int) - 32).toNat) f b4 rr rr rr ⟨_,congrArg (Value.int .i64) (Int.toNat_of_nonneg lt).symm⟩ lw fun wn wp md=>?_
      obtain ⟨wr,mp,c⟩:=c
      refine aw oU (oL (iG1:=iG1+7) h (iG2:=iG2+7) i (by exact (Bx.move (j:=5) Q rr rr)) (n.app [_,_,_,_,_,_,_]) (md.app [_,_,_,_,_,_,_]) mp le) ?_
      rintro _ ws ⟨wt,ww,xs,zf,z0,rfl,f3,f4⟩
      obtain rfl:=f4.hl
      refine ⟨_,rr,.inl ⟨ae.keep (by exact ae.nil) f3,?_⟩⟩
      obtain ⟨ms,mt,c⟩:=c
      refine aw rU (rZ (ls.app [_,_,_,_,_,_,_,_]) (by exact (f4.bx 0 rr)) mt f3) ?_
      rintro _ z1 ⟨rfl,S⟩
      refine ⟨_,rr,.inl ⟨ae.keep (by exact ae.nil) S,?_⟩⟩
      refine aa.not rr rr<|aa.fin f2 ?_;clear f2
      by_cases E:ms=true
      ·
       replace c:=aA c E
       refine aO (congrArg Value.bool (congrArg Bool.not E)) ?_
       refine W.skip ?_
       refine f1 _ _ ?_;clear f1
       refine ad fun _ f5=>?_
       refine bd a7 [1,3,5,7,9,10,13,15] ?_
       have f6:=S.drew
       refine aD rr rr<|aP f6 1 rr rr rr dq<|aE rr rr<|aj rr rr ?_
       obtain ⟨m0,c⟩:=c
       obtain ⟨m1,c⟩:=c
       refine e6 (lo:=0) (hi:=(((d.length:Nat):Int) - 32).toNat) f b4 rr rr rr ⟨_,congrArg (Value.int .i64) (Int.toNat_of_nonneg m0).symm⟩ m1 fun z2 z3 m2=>?_
       have f7:=St.aF (C:= [_,_,_,_,_,_,_,_]) f6 [2,3,4,5,0,1,6,7] (by decide)
       simp only [pick,aL,aK,aM,aJ,ah,ai] at f7
       obtain ⟨m3,m4,c⟩:=c
       refine aw wu (wz (m2.app [_,_,_,_]) m4 f7) ?_
       rintro _ z4 ⟨m5,m6,z5,m7,m8,rfl,m9,f8⟩
       obtain rfl:=f8.hl
       refine ⟨_,rr,.inr ⟨rr,?_⟩⟩
       refine aV rr rr<|ak rr rr<|aa.fin f5 ?_;clear f5
       refine W.ret (aB ?_)
       have f9:=St.aF (C:= [_,_,_,_,_,_,_,_,_]) m9 [0] (by decide)
       simp only [pick,aL,aK,aM,aJ,ah,ai] at f9
       subst r
       refine ax.mk (.bD rr (.bj rr .nil)) ?_
       exact ⟨m5,m6,m3.length,m7,m8,rr,f9,f8⟩
      ·
       replace c:=az c E
       refine aG (congrArg Value.bool (congrArg Bool.not (Bool.eq_false_iff.2 E))) ?_
       refine ad fun _ gc=>ag 2 3 ?_
       refine aV rr rr<|ak rr rr<|aa.fin gc ?_;clear gc
       refine W.ret (a' (aB ?_))
       have m':=S.cN
       have gd:=St.aF (C:= [_,_,_,_,_,_,_,_,_]) m' [0] (by decide)
       simp only [pick,aL,aK,aM,aJ,ah,ai] at gd
       subst r
       refine ax.mk (.bD rr (.bj rr .nil)) ?_
       exact ⟨none,none,0,0,(fun _=>0#8),rr,gd,Ow.nil⟩
end Go.Proofs.YtjclppnbbpnfnaaGreatDoor
