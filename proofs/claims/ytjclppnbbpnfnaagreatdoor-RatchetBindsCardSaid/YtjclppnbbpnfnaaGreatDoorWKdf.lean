/-
 WALKS of the package's functions, printed by this session's own program (auto.py).
-/
import Derived.Test.YtjclppnbbpnfnaaGreatDoorWF
import Derived.Test.YtjclppnbbpnfnaaGreatDoorProg
import Derived.Test.YtjclppnbbpnfnaaGreatDoorEd
import Derived.Test.YtjclppnbbpnfnaaGreatDoorRKdf
import Derived.Test.YtjclppnbbpnfnaaGreatDoorEls
import Derived.Test.YtjclppnbbpnfnaaGreatDoorWSha
namespace Go.Proofs.YtjclppnbbpnfnaaGreatDoor
set_option linter.unusedSimpArgs false
set_option linter.unusedVariables false
set_option linter.unusedSectionVars false
set_option maxRecDepth 8000
set_option maxHeartbeats 1000000
open Go Go.LW
theorem yu {B:Nat} {w0:aC} {w:World} {L:List Rg} {iG1:Nat} (d1:gT L iG1 1 8 .u32 cH) {iG2:Nat} (d2:gT L iG2 2 64 .u32 bE) {g:List af} {u:Option Addr} {H v d3:Nat} (x:Bx L d3 u H v g) {h:BitVec 8} {r:(List af)} (d:kG g h r) (d4:St B w0 (L) w):
  Calls Tryz.prog 66 #[.slice u H v,VU .u8 h] w fun e w'=>∃I:Option Addr,∃J:Option Nat,∃K y:Nat,∃M:Nat→af,e= .returned (.slice I K y)∧St B w0 (gO J y M::L) w'∧Ow I J K y M r:=by
 refine W.enter 29 Tryz.func66 rr rr rr ?_
 unfold kG at d
 have d5:=x.hl;subst d5
 refine ad fun _ N=>ag 1 1 ?_
 refine aV rr rr<|aa.fin N ?_;clear N
 refine ad fun _ O=>ag 1 0 ?_
 refine aa.alloc d4 rr mM ae.nil fun f f8 f9 z=>?_
 simp only [ao,Nat.zero_add,Nat.reduceAdd,ah,ai] at z
 refine aa.fin O ?_;clear O
 refine ad fun _ l=>ad fun _ P=>?_
 refine ag 3 7 ?_
 refine aE rr rr<|aa.len cB rr rr<|aR (a:=(((g.length:Nat):Int):Int)) (b:=(64:Int)) (p:=64 < g.length) rr rr rr rr dL<|aa.fin P ?_;clear P
 by_cases o:64 < g.length
 ·
  replace d:=aA d o
  refine aG (congrArg Value.bool (decide_eq_true o)) ?_
  refine ad fun _ Q=>ag 5 1 ?_
  refine aE rr rr ?_
  refine aa.buildSlice z (ps:= [(1,fun i=> .slice ((fun i=>([u]:List (Option Addr)).getD i none) i) ((fun i=>([g.length]:List Nat).getD i 0) i) ((fun i=>([v]:List Nat).getD i 0) i))]) cV cW cU (by decide) (by decide) rr rr rr (av.keep ae.nil) fun gc gd ge R=>?_
  simp only [ao,List.cons_append,List.nil_append] at R
  obtain ⟨S,d6,d⟩:=d
  refine aw yl (xf (iG1:=iG1+2) d1 (iG2:=iG2+2) d2 (by exact (bR.of 0 rr rr (fun i hi=>match i,hi with | 0,_=>⟨_,(x.app [_,_])⟩ | k+1,hk=>absurd hk (by omega)))) d6 R) ?_
  rintro _ go ⟨rfl,T⟩
  refine ⟨_,rr,.inl ⟨ae.keep (by exact ae.nil) T,?_⟩⟩
  refine aa.alloc T rr dZ ae.nil fun gs gt g0 U=>?_
  simp only [ao,Nat.zero_add,Nat.reduceAdd,ah,ai] at U
  refine aY (f':=fun q=>VU .u8 (S q)) U 0 rr rr rr rr (fun _ _=>rr) dV rr fun g1 h26=>?_
  simp only [ah,ai,aq,ar] at h26
  refine aa.fin Q ?_;clear Q
  refine ag 2 3 ?_
  refine c8 (lo:=0) (hi:=32) (m:=32) (c:=32) (o':=0) gQ rr rr rr rr (by omega) (by omega) (by omega) (by omega)<|aV rr rr<|aa.fin l ?_;clear l
  refine ad fun _ V=>ag 3 3 ?_
  refine c8 (lo:=0) (hi:=64) (m:=64) (c:=64) (o':=0) dX rr rr rr rr (by omega) (by omega) (by omega) (by omega)<|aE rr rr ?_
  refine js (jd:=0) (X:=(dl 32 S)) h26 2 32 b4 rr rr rr rr ((bH (n:=32) (cc:=32) 0 rr (by omega) (by omega)).iK 2 rr) (fun _=>⟨_,rr,rr⟩) rr rr (by omega) (av.keep ae.nil) fun g2 h28=>?_
  simp only [ah,ai,aq,ar] at h28
  refine aa.fin V ?_;clear V
  refine ad fun _ Z=>ad fun _ am=>?_
  refine ag 1 1 ?_
  refine aj rr rr<|aa.fin am ?_;clear am
  obtain ⟨ap,d7,d8⟩:=d
  refine bq (fun e w=>∃A:K8,ap=A∧aU e [(5,pt f 0)]∧St B w0 (g8 f 0 64 A::L) w) ?_ ?_
  ·
   refine W.block ?_
   refine bS d7 (fun (a0:(Nat×K8)) e w=>aU e [(1,VU .u8 h),(5,pt f 0),(18,VN a0.1)]∧St B w0 (g8 f 0 64 a0.2::L) w) ⟨(ab (ab (ab au))),bt 3 [2] h28⟩ ?_
   rintro ⟨t44,C⟩ g3 d d9 el g4 ⟨em,D⟩
   obtain ⟨el,rfl⟩:=em.open
   unfold n2 at d
   refine ad fun _ a2=>ag 1 1 ?_
   refine aR (a:=(((t44:Nat):Int):Int)) (b:=(64:Int)) (p:=t44 < 64) rr rr rr rr bW<|aa.fin a2 ?_;clear a2
   refine ad fun _ a3=>?_
   by_cases s:t44 < 64
   ·
    replace d:=aA d s
    refine aG (congrArg Value.bool (decide_eq_true s)) ?_
    refine W.skip ?_
    refine a3 _ _ ?_;clear a3
    refine ad fun _ a4=>?_
    refine W.block ?_
    refine ad fun _ a5=>ag 2 3 ?_
    refine aj rr rr<|ak rr rr<|aa.fin a5 ?_;clear a5
    refine ag 7 63 ?_
    refine aj rr rr<|a1 (j:=t44) dX rr rr rr (by omega)<|bk (j:=t44) D 0 rr rr rr (by omega) bZ<|aj rr rr<|cp .u8 (X:=(C t44)) (Y:=h) rr rr rr<|a1 (j:=t44) dX rr rr rr (by omega) ?_
    refine cr (j:=t44) (X:=((C t44) ^^^ h)) D 0 rr rr rr rr (by omega) bJ rr fun g5 a9=>?_
    simp only [ah,ai,aq,ar] at a9
    refine aa.nil ?_
    refine bo ?_
    refine a4 _ _ ?_;clear a4
    refine ag 2 3 ?_
    refine bu (a:=t44) (b:=1) rr rr rr (by omega)<|aj rr rr<|aa.nil ?_
    exact bG ⟨_,d,(ab (ab (ab au))),a9⟩
   ·
    replace d:=az d s
    refine aO (congrArg Value.bool (decide_eq_false s)) ?_
    refine W.exit (bM (bU (bL ?_)))
    exact ⟨C,(d9 _ d).symm,(ab au),D⟩
  ·
   rintro eq g6 ⟨A,es,ex,fd⟩
   obtain ⟨eq,rfl⟩:=ex.open
   subst es
   replace d:=d8
   refine Z _ _ ?_;clear Z
   refine ad fun _ be=>ag 2 3 ?_
   refine c8 (lo:=0) (hi:=64) (m:=64) (c:=64) (o':=0) dX rr rr rr rr (by omega) (by omega) (by omega) (by omega)<|aV rr rr<|aa.fin be ?_;clear be
   refine W.ret (aB ?_)
   subst r
   refine ax.mk (.bD rr .nil) ?_
   exact ⟨some ⟨f,0,none⟩,some f,64,64,ap,rr,fd,Ow.arr⟩
 ·
  replace d:=az d o
  refine aO (congrArg Value.bool (decide_eq_false o)) ?_
  refine W.skip ?_
  refine l _ _ ?_;clear l
  refine ad fun _ bi=>ag 3 3 ?_
  refine c8 (lo:=0) (hi:=64) (m:=64) (c:=64) (o':=0) dX rr rr rr rr (by omega) (by omega) (by omega) (by omega)<|aE rr rr ?_
  refine js (jd:=0) (X:=g) z 0 (min g.length 64) b4 rr rr rr rr ((x.app [_]).iK 0 rr) (fun _=>⟨_,rr,rr⟩) rr rr (by omega) (av.keep ae.nil) fun g7 bv=>?_
  simp only [ah,ai,aq,ar] at bv
  refine aa.fin bi ?_;clear bi
  refine ad fun _ cd=>ad fun _ ce=>?_
  refine ag 1 1 ?_
  refine aj rr rr<|aa.fin ce ?_;clear ce
  obtain ⟨ci,fn,f0⟩:=d
  refine bq (fun e w=>∃E:K8,ci=E∧aU e [(5,pt f 0)]∧St B w0 (g8 f 0 64 E::L) w) ?_ ?_
  ·
   refine W.block ?_
   refine bS fn (fun (cl:(Nat×K8)) e w=>aU e [(1,VU .u8 h),(5,pt f 0),(18,VN cl.1)]∧St B w0 (g8 f 0 64 cl.2::L) w) ⟨(ab (ab (ab au))),bv⟩ ?_
   rintro ⟨t75,F⟩ g9 d f1 f2 he ⟨f3,G⟩
   obtain ⟨f2,rfl⟩:=f3.open
   unfold pF at d
   refine ad fun _ co=>ag 1 1 ?_
   refine aR (a:=(((t75:Nat):Int):Int)) (b:=(64:Int)) (p:=t75 < 64) rr rr rr rr bW<|aa.fin co ?_;clear co
   refine ad fun _ cs=>?_
   by_cases t:t75 < 64
   ·
    replace d:=aA d t
    refine aG (congrArg Value.bool (decide_eq_true t)) ?_
    refine W.skip ?_
    refine cs _ _ ?_;clear cs
    refine ad fun _ c1=>?_
    refine W.block ?_
    refine ad fun _ c2=>ag 2 3 ?_
    refine aj rr rr<|ak rr rr<|aa.fin c2 ?_;clear c2
    refine ag 7 63 ?_
    refine aj rr rr<|a1 (j:=t75) dX rr rr rr (by omega)<|bk (j:=t75) G 0 rr rr rr (by omega) bZ<|aj rr rr<|cp .u8 (X:=(F t75)) (Y:=h) rr rr rr<|a1 (j:=t75) dX rr rr rr (by omega) ?_
    refine cr (j:=t75) (X:=((F t75) ^^^ h)) G 0 rr rr rr rr (by omega) bJ rr fun hm ds=>?_
    simp only [ah,ai,aq,ar] at ds
    refine aa.nil ?_
    refine bo ?_
    refine c1 _ _ ?_;clear c1
    refine ag 2 3 ?_
    refine bu (a:=t75) (b:=1) rr rr rr (by omega)<|aj rr rr<|aa.nil ?_
    exact bG ⟨_,d,(ab (ab (ab au))),ds⟩
   ·
    replace d:=az d t
    refine aO (congrArg Value.bool (decide_eq_false t)) ?_
    refine W.exit (bM (bU (bL ?_)))
    exact ⟨F,(f1 _ d).symm,(ab au),G⟩
  ·
   rintro f4 hu ⟨E,f5,f6,f7⟩
   obtain ⟨f4,rfl⟩:=f6.open
   subst f5
   replace d:=f0
   refine cd _ _ ?_;clear cd
   refine ad fun _ d0=>ag 2 3 ?_
   refine c8 (lo:=0) (hi:=64) (m:=64) (c:=64) (o':=0) dX rr rr rr rr (by omega) (by omega) (by omega) (by omega)<|aV rr rr<|aa.fin d0 ?_;clear d0
   refine W.ret (aB ?_)
   subst r
   refine ax.mk (.bD rr .nil) ?_
   exact ⟨some ⟨f,0,none⟩,some f,64,64,ci,rr,f7,Ow.arr⟩
theorem cR {B:Nat} {w0:aC} {w:World} {L:List Rg} {iG1:Nat} (l:gT L iG1 1 8 .u32 cH) {iG2:Nat} (h:gT L iG2 2 64 .u32 bE) {o:List af} {s:Option Addr} {K t cl:Nat} (y:Bx L cl s K t o) {g:List (List af)} {z:Option Addr} {M A co:Nat} (E:bR L co z M A g) {r:K8} (d:dy o g r) (cs:St B w0 (L) w):
  Calls Tryz.prog 36 #[.slice s K t,.slice z M A] w fun e w'=>e= .returned (AG [p8 32 r])∧St B w0 (L) w':=by
 refine W.enter 31 Tryz.func36 rr rr rr ?_
 unfold dy at d
 have c1:=y.hl;subst c1
 have c2:=E.hl;subst c2
 refine ad fun _ N=>ag 1 0 ?_
 refine aa.alloc cs rr dZ ae.nil fun u gc gd O=>?_
 simp only [ao,Nat.zero_add,Nat.reduceAdd,ah,ai] at O
 refine aa.fin N ?_;clear N
 refine ad fun _ P=>ag 2 2 ?_
 obtain ⟨ge,go,gs,dl,d⟩:=d
 refine aw xd (wi (iG1:=iG1+1) l dl O) ?_
 rintro _ gt ⟨f,rfl,Q⟩
 refine ⟨_,rr,.inl ⟨ae.keep (by exact ae.nil) Q,?_⟩⟩
 refine cA rr rr<|aa.fin P ?_;clear P
 refine ad fun _ R=>ag 4 3 ?_
 refine aD rr rr<|aE rr rr ?_
 obtain ⟨g0,ds,d⟩:=d
 refine aw tI (yu (iG1:=iG1+4) l (iG2:=iG2+4) h (y.app [_,_,_,_]) ds Q) ?_
 rintro _ g2 ⟨g3,g4,g5,g6,g7,rfl,S,T⟩
 obtain rfl:=T.hl
 refine ⟨_,rr,.inl ⟨ae.keep (by exact ae.nil) S,?_⟩⟩
 have U:=St.aF (C:= [_,_,_,_,_]) S [1,2,3,0,4] (by decide)
 simp only [pick,aL,aK,aM,aJ,ah,ai] at U
 obtain ⟨g9,he,hm,d0,d⟩:=d
 refine aw ky (kJ (iG2:=iG2+2) h (by exact (T.bx 0 rr)) d0 U) ?_
 rintro _ hu ⟨rfl,h26⟩
 refine ⟨_,rr,.inl ⟨ae.keep (by exact ae.nil) h26,?_⟩⟩
 refine aa.fin R ?_;clear R
 refine ad fun _ V=>ad fun _ X=>?_
 refine ag 3 7 ?_
 refine aE rr rr<|aa.len kj rr rr<|aj rr rr<|aa.fin X ?_;clear X
 obtain ⟨d1,d2,m64,d3,d4⟩:=d
 refine bq (fun e w=>∃F:Nat→U4,∃G:K8,∃H:Int,(d1,d2,m64)=(F,G,H)∧aU e [(0,.slice s o.length t),(4,pt u 0),(5,pt f 0)]∧St B w0 (⟨some f,0,8,fun q=>VU .u32 (F q),true⟩::g8 f 8 64 G::g1 f 72 (.int .i64 H)::g8 u 0 32 (fun _=>0#8)::L) w) ?_ ?_
 ·
  refine W.block ?_
  refine bS d3 (fun (v:(Nat×(Nat→U4)×K8×Int)) e w=>aU e [(0,.slice s o.length t),(4,pt u 0),(5,pt f 0),(14,.slice z g.length A),(15,VN g.length),(16,VN v.1)]∧St B w0 (⟨some f,0,8,fun q=>VU .u32 (v.2.1 q),true⟩::g8 f 8 64 v.2.2.1::g1 f 72 (.int .i64 v.2.2.2)::g8 u 0 32 (fun _=>0#8)::L) w) ⟨(ab (ab (ab (ab (ab (ab au)))))),bt 5 [0,1,2,4] h26⟩ ?_
  rintro ⟨t58,d5,d6,d7⟩ hw d d8 d9 hH ⟨el,I⟩
  obtain ⟨d9,rfl⟩:=el.open
  unfold oi at d
  refine ad fun _ Y=>ag 1 1 ?_
  refine aR (a:=(((t58:Nat):Int):Int)) (b:=(((g.length:Nat):Int):Int)) (p:=t58 < g.length) rr rr rr rr bW<|aa.fin Y ?_;clear Y
  refine ad fun _ Z=>?_
  by_cases x:t58 < g.length
  ·
   replace d:=aA d x
   refine aG (congrArg Value.bool (decide_eq_true x)) ?_
   refine W.skip ?_
   refine Z _ _ ?_;clear Z
   refine ad fun _ am=>?_
   refine W.block ?_
   refine ad fun _ ap=>ag 3 7 ?_
   obtain ⟨a0,d⟩:=d
   refine k3 (j:=t58) E kY rr rr rr a0 ?_
   refine k0 (D:= [_,_,_,_]) (j:=t58) I E rr rr a0 hT fun hO i74 h1 id ii em=>?_
   refine aV rr rr<|aa.fin ap ?_;clear ap
   refine ag 3 3 ?_
   refine aD rr rr<|aE rr rr ?_
   obtain ⟨io,ip,is,eq,d⟩:=d
   refine aw ky (kJ (iG2:=iG2+1) h (em.app [_]) eq I) ?_
   rintro _ it ⟨rfl,a2⟩
   refine ⟨_,rr,.inl ⟨ae.keep (by exact ae.nil) a2,?_⟩⟩
   refine aa.nil ?_
   refine bo ?_
   refine am _ _ ?_;clear am
   refine ag 2 3 ?_
   obtain ⟨i0,d⟩:=d
   refine bu (a:=t58) (b:=1) rr rr rr (by omega)<|aj rr rr<|aa.nil ?_
   exact bG ⟨_,d,(ab (ab (ab (ab (ab (ab au)))))),a2⟩
  ·
   replace d:=az d x
   refine aO (congrArg Value.bool (decide_eq_false x)) ?_
   refine W.exit (bM (bU (bL ?_)))
   exact ⟨d5,d6,d7,(d8 _ d).symm,(ab (ab (ab au))),I⟩
 ·
  rintro es i1 ⟨F,G,H,ex,fd,fn⟩
  obtain ⟨es,rfl⟩:=fd.open
  cases ex
  replace d:=d4
  refine V _ _ ?_;clear V
  refine ad fun _ a3=>ag 4 1 ?_
  refine aD rr rr ?_
  obtain ⟨f0,f1,d⟩:=d
  refine aw yZ (ye (iG2:=iG2+1) h f1 fn) ?_
  rintro _ i2 ⟨rfl,a4⟩
  refine ⟨_,rr,.inl ⟨ae.keep (by exact ae.nil) a4,?_⟩⟩
  refine aa.alloc a4 rr dZ ae.nil fun f2 i3 i4 a5=>?_
  simp only [ao,Nat.zero_add,Nat.reduceAdd,ah,ai] at a5
  refine aY (f':=fun q=>VU .u8 (f0 q)) a5 0 rr rr rr rr (fun _ _=>rr) dV rr fun i5 a9=>?_
  simp only [ah,ai,aq,ar] at a9
  refine aa.fin a3 ?_;clear a3
  refine ad fun _ be=>?_
  refine bd a7 [1,5,2,6,8,10] ?_
  have f3:=a9.drew
  refine aE rr rr<|c8 (lo:=0) (hi:=32) (m:=32) (c:=32) (o':=0) gQ rr rr rr rr (by omega) (by omega) (by omega) (by omega) ?_
  obtain ⟨f4,f5,d⟩:=d
  refine aw tI (yu (iG1:=iG1+5) l (iG2:=iG2+5) h (y.app [_,_,_,_,_]) f5 f3) ?_
  rintro _ i6 ⟨f6,i7,i8,f7,i9,rfl,bi,bv⟩
  obtain rfl:=bv.hl
  refine ⟨_,rr,.inl ⟨ae.keep (by exact ae.nil) bi,?_⟩⟩
  refine aa.buildSlice bi (ps:= [(2,fun i=> .slice ((fun i=>([f6,some ⟨f2,0,none⟩]:List (Option Addr)).getD i none) i) ((fun i=>([f4.length,32]:List Nat).getD i 0) i) ((fun i=>([f7,32]:List Nat).getD i 0) i))]) cV cW cU (by decide) (by decide) rr rr rr (av.keep ae.nil) fun jd jp kk cd=>?_
  simp only [ao,List.cons_append,List.nil_append] at cd
  obtain ⟨f8,f9,d⟩:=d
  refine aw yl (xf (iG1:=iG1+7) l (iG2:=iG2+7) h (by exact (bR.of 0 rr rr (fun i hi=>match i,hi with | 0,_=>⟨_,(bv.bx 1 rr)⟩ | 1,_=>⟨_,(bH (n:=32) (cc:=32) 2 rr (by omega) (by omega))⟩ | k+2,hk=>absurd hk (by omega)))) f9 cd) ?_
  rintro _ kw ⟨rfl,ce⟩
  refine ⟨_,rr,.inl ⟨ae.keep (by exact ae.nil) ce,?_⟩⟩
  refine aY (f':=fun q=>VU .u8 (f8 q)) ce 6 rr rr rr rr (fun _ _=>rr) dV rr fun lc J=>?_
  simp only [ah,ai,aq,ar] at J
  refine aa.fin be ?_;clear be
  refine W.ret (aB ?_)
  have ci:=St.aF (C:= [_,_,_,_,_,_,_]) J [] (by decide)
  simp only [pick,aL,aK,aM,aJ,ah,ai] at ci
  subst r
  refine ax.mk (.agg J rr (.cons 6 rr .nil) lH .nil) ?_
  exact ⟨rr,ci⟩
theorem zZ {B:Nat} {w0:aC} {w:World} {L:List Rg} {iG1:Nat} (y:gT L iG1 1 8 .u32 cH) {iG2:Nat} (z:gT L iG2 2 64 .u32 bE) {g:List af} {h:Option Addr} {j l A:Nat} (m:Bx L A h j l g) {a:List af} {b:Option Addr} {n c D:Nat} (o:Bx L D b n c a) {r:K8} (d:p0 g a r) (E:St B w0 (L) w):
  Calls Tryz.prog 69 #[.slice h j l,.slice b n c] w fun e w'=>e= .returned (AG [p8 32 r])∧St B w0 (L) w':=by
 refine W.enter 9 Tryz.func69 rr rr rr ?_
 unfold p0 at d
 have F:=m.hl;subst F
 have G:=o.hl;subst G
 refine ad fun _ p=>ag 1 0 ?_
 refine aa.alloc E rr dZ ae.nil fun J K M s=>?_
 simp only [ao,Nat.zero_add,Nat.reduceAdd,ah,ai] at s
 refine aa.fin p ?_;clear p
 refine ad fun _ t=>ag 5 3 ?_
 refine aE rr rr<|aE rr rr ?_
 refine aa.buildSlice s (ps:= [(1,fun i=> .slice ((fun i=>([b]:List (Option Addr)).getD i none) i) ((fun i=>([a.length]:List Nat).getD i 0) i) ((fun i=>([c]:List Nat).getD i 0) i))]) cV cW cU (by decide) (by decide) rr rr rr (av.keep ae.nil) fun N O P u=>?_
 simp only [ao,List.cons_append,List.nil_append] at u
 obtain ⟨H,I,d⟩:=d
 refine aw cS (cR (iG1:=iG1+2) y (iG2:=iG2+2) z (m.app [_,_]) (by exact (bR.of 0 rr rr (fun i hi=>match i,hi with | 0,_=>⟨_,(o.app [_,_])⟩ | k+1,hk=>absurd hk (by omega)))) I u) ?_
 rintro _ Q ⟨rfl,v⟩
 refine ⟨_,rr,.inl ⟨ae.keep (by exact ae.nil) v,?_⟩⟩
 refine aY (f':=fun q=>VU .u8 (H q)) v 1 rr rr rr rr (fun _ _=>rr) dV rr fun R f=>?_
 simp only [ah,ai,aq,ar] at f
 refine aa.fin t ?_;clear t
 refine W.ret (aB ?_)
 have x:=St.aF (C:= [_,_]) f [] (by decide)
 simp only [pick,aL,aK,aM,aJ,ah,ai] at x
 subst r
 refine ax.mk (.agg f rr (.cons 1 rr .nil) lH .nil) ?_
 exact ⟨rr,x⟩
theorem Gp {B:Nat} {w0:aC} {w:World} {L:List Rg} {iG1:Nat} (fd:gT L iG1 1 8 .u32 cH) {iG2:Nat} (fn:gT L iG2 2 64 .u32 bE) {K:List af} {M:Option Addr} {T N f0:Nat} (U:Bx L f0 M T N K) {t:List af} {u:Option Addr} {V v f1:Nat} (Z:Bx L f1 u V v t) {f:Int} {r:((List af)×Nat)} (d:mQ K t f r) (O:St B w0 (L) w):
  Calls Tryz.prog 70 #[.slice M T N,.slice u V v,.int .i64 f] w fun e w'=>∃am:Option Addr,∃ap:Option Nat,∃a0 P:Nat,∃a2:Nat→af,e= .returned (.tuple #[.slice am a0 P,VN r.2])∧St B w0 (gO ap P a2::L) w'∧Ow am ap a0 P a2 r.1:=by
 refine W.enter 41 Tryz.func70 rr rr rr ?_
 unfold mQ at d
 have f2:=U.hl;subst f2
 have f3:=Z.hl;subst f3
 refine ad fun _ a3=>ag 2 3 ?_
 refine aV rr rr<|ak rr rr<|aa.fin a3 ?_;clear a3
 refine ad fun _ a4=>ad fun _ a5=>?_
 refine ag 2 3 ?_
 refine aj rr rr<|aR (a:=(f:Int)) (b:=(0:Int)) (p:=f < 0) rr rr rr rr fE<|aa.fin a5 ?_;clear a5
 by_cases x:f < 0
 ·
  replace d:=aA d x
  refine aG (congrArg Value.bool (decide_eq_true x)) ?_
  refine ad fun _ a9=>ag 2 3 ?_
  refine aV rr rr<|ak rr rr<|aa.fin a9 ?_;clear a9
  refine W.ret (a' (aB ?_))
  have f4:=O.cN
  subst r
  refine ax.mk (.bD rr (.bj rr .nil)) ?_
  exact ⟨none,none,0,0,(fun _=>0#8),rr,f4,Ow.nil⟩
 ·
  replace d:=az d x
  refine aO (congrArg Value.bool (decide_eq_false x)) ?_
  refine W.skip ?_
  refine a4 _ _ ?_;clear a4
  refine ad fun _ be=>ad fun _ bi=>?_
  refine ag 2 3 ?_
  refine aj rr rr<|aR (a:=(f:Int)) (b:=(8160:Int)) (p:=8160 < f) rr rr rr rr fw<|aa.fin bi ?_;clear bi
  by_cases y:8160 < f
  ·
   replace d:=aA d y
   refine aG (congrArg Value.bool (decide_eq_true y)) ?_
   refine ad fun _ bv=>ag 2 3 ?_
   refine aV rr rr<|ak rr rr<|aa.fin bv ?_;clear bv
   refine W.ret (a' (aB ?_))
   have f5:=O.cN
   subst r
   refine ax.mk (.bD rr (.bj rr .nil)) ?_
   exact ⟨none,none,0,0,(fun _=>0#8),rr,f5,Ow.nil⟩
  ·
   replace d:=az d y
   refine aO (congrArg Value.bool (decide_eq_false y)) ?_
   refine W.skip ?_
   refine be _ _ ?_;clear be
   refine ad fun _ cd=>ag 4 11 ?_
   refine aj rr rr<|iF (a:=f) (b:=32) rr rr rr (by omega) ?_
   obtain ⟨f6,d⟩:=d
   obtain ⟨ce,d⟩:=d
   refine j0 (len:=0) (c:=(f+32).toNat) O eY rr rr (congrArg (Value.int .i64) (Int.toNat_of_nonneg f6).symm) ce.1 ce.2 (fun _=>av.keep ae.nil) fun ci h1 id f7 f8=>?_
   refine aV rr rr<|aa.fin cd ?_;clear cd
   refine ad fun _ cl=>ag 1 1 ?_
   refine aV rr rr<|aa.fin cl ?_;clear cl
   refine ad fun _ co=>ad fun _ cs=>?_
   refine ag 1 1 ?_
   refine ak rr rr<|aa.fin cs ?_;clear cs
   have f9:=f8.cN
   obtain ⟨c1,gc,gd⟩:=d
   refine bq (fun e w=>∃j:List af,c1=j∧∃z:Option Addr,∃A:Option Nat,∃C:Nat,∃D:Nat→af,aU e [(2,.int .i64 f),(8,.slice z j.length C)]∧St B w0 (gO A C D::L) w∧Ow z A j.length C D j) ?_ ?_
   ·
    refine W.block ?_
    refine bS gc (fun (g:((List af)×(List af)×Nat)) e w=>∃E:Option Addr,∃F:Option Nat,∃l:Nat,∃G:Nat→af,∃H:Option Addr,∃Q:Option Nat,∃o:Nat,∃R:Nat→af,aU e [(0,.slice M K.length N),(1,.slice u t.length v),(2,.int .i64 f),(8,.slice E g.1.length l),(9,.slice H g.2.1.length o),(10,VN g.2.2)]∧St B w0 (gO F l G::gO Q o R::L) w∧Ow E F g.1.length l G g.1∧Ow H Q g.2.1.length o R g.2.1) ⟨some ⟨ci,0,none⟩,some ci,(f+32).toNat,(fun _=>0#8),none,none,0,(fun _=>0#8),(ab (ab (ab (ab (ab (ab au)))))),bt 2 [1,0] f9,f7,Ow.nil⟩ ?_
    rintro ⟨s,ge,h⟩ ii d go gs io ⟨E,F,l,G,H,Q,o,R,gt,c2,ds,g0⟩
    obtain ⟨gs,rfl⟩:=gt.open
    unfold pV at d
    refine ad fun _ d0=>ad fun _ d1=>?_
    refine ag 4 15 ?_
    refine aE rr rr<|aa.len cB rr rr<|aj rr rr<|aR (a:=(((s.length:Nat):Int):Int)) (b:=(f:Int)) (p:=((s.length:Nat):Int) < f) rr rr rr rr fE<|aa.fin d1 ?_;clear d1
    by_cases I:((s.length:Nat):Int) < f
    ·
     replace d:=aA d I
     refine aG (congrArg Value.bool (decide_eq_true I)) ?_
     refine W.skip ?_
     refine d0 _ _ ?_;clear d0
     refine ad fun _ d2=>?_
     refine W.block ?_
     refine ad fun _ d3=>ag 10 31 ?_
     refine aE rr rr<|aE rr rr<|aE rr rr<|aj rr rr<|kf .u8 (a:=h) cw e_ rr rr ?_
     refine aa.buildSlice c2 (ps:= [p8 1 (lit ([(BitVec.ofNat 8 h)]:List af))]) cq bJ df (by decide) (by decide) rr rr rr (av.keep ae.nil) fun J ip is d4=>?_
     simp only [ao,List.cons_append,List.nil_append] at d4
     have g1:Ow (some ⟨J,0,none⟩) (some J) ([(BitVec.ofNat 8 h)]:List af).length 1 (lit ([(BitVec.ofNat 8 h)]:List af)) ([(BitVec.ofNat 8 h)]:List af):=⟨.inr ⟨J,rfl,rfl⟩,Nat.le_refl _,rfl,fun q _=>rfl⟩
     refine aa.buildSlice d4 (ps:= [(3,fun i=> .slice ((fun i=>([H,u,some ⟨J,0,none⟩]:List (Option Addr)).getD i none) i) ((fun i=>([ge.length,t.length,([(BitVec.ofNat 8 h)]:List af).length]:List Nat).getD i 0) i) ((fun i=>([o,v,1]:List Nat).getD i 0) i))]) cV cW cU (by decide) (by decide) rr rr rr (av.keep ae.nil) fun it i0 i1 d5=>?_
     simp only [ao,List.cons_append,List.nil_append] at d5
     obtain ⟨S,g2,d⟩:=d
     refine aw cS (cR (iG1:=iG1+4) fd (iG2:=iG2+4) fn (U.app [_,_,_,_]) (by exact (bR.of 0 rr rr (fun i hi=>match i,hi with | 0,_=>⟨_,(g0.bx 3 rr)⟩ | 1,_=>⟨_,(Z.app [_,_,_,_])⟩ | 2,_=>⟨_,(g1.bx 1 rr)⟩ | k+3,hk=>absurd hk (by omega)))) g2 d5) ?_
     rintro _ i2 ⟨rfl,d6⟩
     refine ⟨_,rr,.inl ⟨ae.keep (by exact ae.nil) d6,?_⟩⟩
     refine aa.alloc d6 rr dZ ae.nil fun d7 i3 i4 d8=>?_
     simp only [ao,Nat.zero_add,Nat.reduceAdd,ah,ai] at d8
     refine aY (f':=fun q=>VU .u8 (S q)) d8 0 rr rr rr rr (fun _ _=>rr) dV rr fun i5 d9=>?_
     simp only [ah,ai,aq,ar] at d9
     refine aa.fin d3 ?_;clear d3
     refine ad fun _ el=>ag 2 3 ?_
     refine c8 (lo:=0) (hi:=32) (m:=32) (c:=32) (o':=0) gQ rr rr rr rr (by omega) (by omega) (by omega) (by omega)<|aV rr rr<|aa.fin el ?_;clear el
     refine ag 4 11 ?_
     refine aE rr rr<|aE rr rr ?_
     obtain ⟨g3,d⟩:=d
     refine kS (X:=s) (Y:=(dl 32 S)) d9 3 ds eY b4 rr rr rr rr (bH (n:=32) (cc:=32) 0 rr (by omega) (by omega)) g3 (fun _=>av.keep ae.nil) fun g4 g5 g6 g7 i6 g8 em=>?_
     simp only [ah,ai,aq,ar] at em
     refine aV rr rr<|aa.nil ?_
     refine bo ?_
     refine d2 _ _ ?_;clear d2
     refine ag 3 7 ?_
     refine aj rr rr ?_
     obtain ⟨i7,d⟩:=d
     refine bu (a:=h) (b:=1) rr rr rr (by omega)<|ak rr rr<|aa.nil ?_
     exact bG ⟨_,d,g4,g5,g6,g7,some ⟨d7,0,none⟩,some d7,32,S,(ab (ab (ab (ab (ab (ab au)))))),bt 5 [3,0] em,g8,Ow.arr⟩
    ·
     replace d:=az d I
     refine aO (congrArg Value.bool (decide_eq_false I)) ?_
     refine W.exit (bM (bU (bL ?_)))
     exact ⟨s,(go _ d).symm,E,F,l,G,(ab (ab au)),bt 2 [0] c2,ds⟩
   ·
    rintro g9 i8 ⟨j,he,z,A,C,D,hm,hu,hw⟩
    obtain ⟨g9,rfl⟩:=hm.open
    subst he
    replace d:=gd
    refine co _ _ ?_;clear co
    refine ad fun _ eq=>ag 6 63 ?_
    refine aE rr rr<|aj rr rr<|aj rr rr ?_
    obtain ⟨es,d⟩:=d
    obtain ⟨hH,d⟩:=d
    refine A1 (m:=f.toNat) hu 0 hw b4 rr rr ⟨_,congrArg (Value.int .i64) (Int.toNat_of_nonneg es).symm⟩ ⟨_,congrArg (Value.int .i64) (Int.toNat_of_nonneg es).symm⟩ hH rr fun hO ex=>?_
    simp only [ah,ai,aq,ar] at ex
    refine aV rr rr<|ak rr rr<|aa.fin eq ?_;clear eq
    refine W.ret (aB ?_)
    subst r
    refine ax.mk (.bD rr (.bj rr .nil)) ?_
    exact ⟨z,A,(aT c1 0 f.toNat).length,f.toNat,D,rr,ex,hO⟩
theorem jm {B:Nat} {w0:aC} {w:World} {L:List Rg} {iG1:Nat} (f:gT L iG1 1 8 .u32 cH) {iG2:Nat} (g:gT L iG2 2 64 .u32 bE) {h:List af} {i:Option Addr} {j k R:Nat} (l:Bx L R i j k h) {o:List af} {p:Option Addr} {s t S:Nat} (u:Bx L S p s t o) {v:List af} {x:Option Addr} {y z T:Nat} (A:Bx L T x y z v) {D:Int} {r:((List af)×Nat)} (a:jj h o v D r) (U:St B w0 (L) w):
  Calls Tryz.prog 37 #[.slice i j k,.slice p s t,.slice x y z,.int .i64 D] w fun e w'=>∃E:Option Addr,∃F:Option Nat,∃G b:Nat,∃H:Nat→af,e= .returned (.tuple #[.slice E G b,VN r.2])∧St B w0 (gO F b H::L) w'∧Ow E F G b H r.1:=by
 refine W.enter 20 Tryz.func37 rr rr rr ?_
 unfold jj at a
 have V:=l.hl;subst V
 have X:=u.hl;subst X
 have Y:=A.hl;subst Y
 refine ad fun _ I=>ag 2 3 ?_
 refine aV rr rr<|ak rr rr<|aa.fin I ?_;clear I
 refine ad fun _ J=>ag 5 3 ?_
 refine aE rr rr<|aE rr rr ?_
 obtain ⟨Z,am,a⟩:=a
 refine aw BJ (zZ (iG1:=iG1+0) f (iG2:=iG2+0) g l u am U) ?_
 rintro _ a9 ⟨rfl,K⟩
 refine ⟨_,rr,.inl ⟨ae.keep (by exact ae.nil) K,?_⟩⟩
 refine aa.alloc K rr dZ ae.nil fun be bi bv M=>?_
 simp only [ao,Nat.zero_add,Nat.reduceAdd,ah,ai] at M
 refine aY (f':=fun q=>VU .u8 (Z q)) M 0 rr rr rr rr (fun _ _=>rr) dV rr fun cd N=>?_
 simp only [ah,ai,aq,ar] at N
 refine aa.fin J ?_;clear J
 refine ad fun _ O=>ag 8 247 ?_
 refine c8 (lo:=0) (hi:=32) (m:=32) (c:=32) (o':=0) gQ rr rr rr rr (by omega) (by omega) (by omega) (by omega)<|aE rr rr<|aj rr rr ?_
 obtain ⟨ap,ce,a0,a⟩:=a
 refine aw DZ (Gp (iG1:=iG1+1) f (iG2:=iG2+1) g (by exact (bH (n:=32) (cc:=32) 0 rr (by omega) (by omega))) (A.app [_]) a0 N) ?_
 rintro _ ci ⟨a2,a3,cl,a4,a5,rfl,P,d⟩
 try dsimp only at d
 obtain rfl:=d.hl
 refine ⟨_,rr,.inl ⟨ae.keep (by exact ae.nil) P,?_⟩⟩
 refine dh rr rr rr<|b' rr rr rr<|aV rr rr<|ak rr rr<|aa.fin O ?_;clear O
 refine W.ret (aB ?_)
 have Q:=St.aF (C:= [_,_]) P [0] (by decide)
 simp only [pick,aL,aK,aM,aJ,ah,ai] at Q
 subst r
 refine ax.mk (.bD rr (.bj rr .nil)) ?_
 exact ⟨a2,a3,ap.length,a4,a5,rr,Q,d⟩
end Go.Proofs.YtjclppnbbpnfnaaGreatDoor
