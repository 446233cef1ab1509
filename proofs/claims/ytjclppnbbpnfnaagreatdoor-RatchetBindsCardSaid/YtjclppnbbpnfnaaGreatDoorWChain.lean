/-
 WALKS of the package's functions, printed by this session's own program (auto.py).
-/
import Derived.Test.YtjclppnbbpnfnaaGreatDoorWF
import Derived.Test.YtjclppnbbpnfnaaGreatDoorProg
import Derived.Test.YtjclppnbbpnfnaaGreatDoorEd
import Derived.Test.YtjclppnbbpnfnaaGreatDoorRChain
import Derived.Test.YtjclppnbbpnfnaaGreatDoorEls
import Derived.Test.YtjclppnbbpnfnaaGreatDoorWKdf
namespace Go.Proofs.YtjclppnbbpnfnaaGreatDoor
set_option linter.unusedSimpArgs false
set_option linter.unusedVariables false
set_option linter.unusedSectionVars false
set_option maxRecDepth 8000
set_option maxHeartbeats 1000000
open Go Go.LW
theorem sK {B:Nat} {w0:aC} {w:World} {L:List Rg} {iG1:Nat} (y:gT L iG1 1 8 .u32 cH) {iG2:Nat} (z:gT L iG2 2 64 .u32 bE) {g h:K8} {r:(K8×K8)} (b:k4 g h r) (A:St B w0 (L) w):
  Calls Tryz.prog 42 #[AG [p8 32 g],AG [p8 32 h]] w fun e w'=>e= .returned (.tuple #[AG [p8 32 r.1],AG [p8 32 r.2]])∧St B w0 (L) w':=by
 refine W.enter 25 Tryz.func42 rr rr rr ?_
 unfold k4 at b
 refine ad fun _ i=>ag 4 0 ?_
 refine bp A rr rr ae.nil fun J K M j=>?_
 simp only [ao,Nat.zero_add,Nat.reduceAdd,ah,ai] at j
 refine bp j rr rr ae.nil fun N O P k=>?_
 simp only [ao,Nat.zero_add,Nat.reduceAdd,ah,ai] at k
 refine aa.alloc k rr c4 ae.nil fun Q R S l=>?_
 simp only [ao,Nat.zero_add,Nat.reduceAdd,ah,ai] at l
 refine aa.alloc l rr c4 ae.nil fun T U V o=>?_
 simp only [ao,Nat.zero_add,Nat.reduceAdd,ah,ai] at o
 refine aa.fin i ?_;clear i
 refine ad fun _ p=>?_
 refine bd a7 [1,3,4,6,8,11,13,15,17,19] ?_
 have D:=o.drew
 refine c8 (lo:=0) (hi:=32) (m:=32) (c:=32) (o':=0) c' rr rr rr rr (by omega) (by omega) (by omega) (by omega)<|c8 (lo:=0) (hi:=32) (m:=32) (c:=32) (o':=0) c' rr rr rr rr (by omega) (by omega) (by omega) (by omega) ?_
 refine l6 ae.nil D (f:=fun q=>VU .u8 (lit ([108#8,101#8,116#8,104#8,101#8,32#8,114#8,111#8,111#8,116#8]:List af) q)) cq cw bJ df (by decide) (by decide) rr (fun _=>rr) (fun _=>rr) rr (by kernel_rfl) fun Y Z am E=>?_
 obtain ⟨a,ap,F,b⟩:=b
 refine aw j6 (jm (iG1:=iG1+5) y (iG2:=iG2+5) z (by exact (bH (n:=32) (cc:=32) 4 rr (by omega) (by omega))) (by exact (bH (n:=32) (cc:=32) 3 rr (by omega) (by omega))) (by exact (bH (n:=10) (cc:=10) 0 rr (by omega) (by omega))) F E) ?_
 rintro _ a0 ⟨a2,a3,a4,G,a5,rfl,s,d⟩
 try dsimp only at d
 obtain rfl:=d.hl
 refine ⟨_,rr,.inl ⟨ae.keep (by exact ae.nil) s,?_⟩⟩
 refine bK rr rr<|dh rr rr rr<|b' rr rr rr<|aV rr rr<|ak rr rr<|aa.fin p ?_;clear p
 refine ad fun _ t=>ag 3 3 ?_
 refine c8 (lo:=0) (hi:=32) (m:=32) (c:=32) (o':=0) c' rr rr rr rr (by omega) (by omega) (by omega) (by omega)<|aE rr rr ?_
 refine js (jd:=0) (X:=a) s 3 (min a.length 32) b4 rr rr rr rr ((d.bx 0 rr).iK 3 rr) (fun _=>⟨_,rr,rr⟩) rr rr (by omega) (av.keep ae.nil) fun a9 u=>?_
 simp only [ah,ai,aq,ar] at u
 refine aa.fin t ?_;clear t
 refine ad fun _ v=>?_
 refine bd a7 [1,3,5,6] ?_
 have H:=u.drew
 refine c8 (lo:=0) (hi:=32) (m:=32) (c:=32) (o':=0) c' rr rr rr rr (by omega) (by omega) (by omega) (by omega)<|aE rr rr ?_
 obtain ⟨I,b⟩:=b
 have be:a.length≤G:=d.hc
 refine gF (lo:=32) (hi:=a.length) b4 rr rr ⟨_,rr⟩ rr (by omega) ?_
 refine js (jd:=0) (X:=(aT a 32 a.length)) H 2 (min (a.length - 32) 32) b4 rr rr rr rr (((d.bx 0 rr).aT (lo:=32) (hi:=a.length) I).iK 2 rr) (fun _=>⟨_,rr,rr⟩) rr rr (by omega) (av.keep ae.nil) fun bi h26=>?_
 simp only [ah,ai,aq,ar] at h26
 refine aa.fin v ?_;clear v
 refine ad fun _ x=>ag 4 3 ?_
 refine aP h26 3 rr rr rr ba<|aP h26 2 rr rr rr ba ?_
 refine aY (f':=fun q=>VU .u8 ((bh (fun _=>0#8) 0 (min a.length 32) (lit a)) q)) h26 3 rr rr rr rr (fun _ _=>rr) bP rr fun bv h28=>?_
 simp only [ah,ai,aq,ar] at h28
 refine aY (f':=fun q=>VU .u8 ((bh (fun _=>0#8) 0 (min (a.length - 32) 32) (lit (aT a 32 a.length))) q)) h28 2 rr rr rr rr (fun _ _=>rr) bP rr fun cd h29=>?_
 simp only [ah,ai,aq,ar] at h29
 refine aa.fin x ?_;clear x
 refine W.ret (aB ?_)
 have h30:=St.aF (C:= [_,_,_,_,_,_]) h29 [] (by decide)
 simp only [pick,aL,aK,aM,aJ,ah,ai] at h30
 subst r
 refine ax.mk (.agg h29 rr (.cons 3 rr .nil) ba (.agg h29 rr (.cons 2 rr .nil) ba .nil)) ?_
 exact ⟨rr,h30⟩
theorem pQ {B:Nat} {w0:aC} {w:World} {L:List Rg} {iG1:Nat} (b:gT L iG1 1 8 .u32 cH) {iG2:Nat} (d:gT L iG2 2 64 .u32 bE) {Y:K8} {r:(K8×K8)} (a:jv Y r) (g5:St B w0 (L) w):
  Calls Tryz.prog 18 #[AG [p8 32 Y]] w fun e w'=>e= .returned (.tuple #[AG [p8 32 r.1],AG [p8 32 r.2]])∧St B w0 (L) w':=by
 refine W.enter 12 Tryz.func18 rr rr rr ?_
 unfold jv at a
 refine ad fun _ Z=>ag 3 0 ?_
 refine bp g5 rr rr ae.nil fun g8 g9 he h3=>?_
 simp only [ao,Nat.zero_add,Nat.reduceAdd,ah,ai] at h3
 refine aa.alloc h3 rr c4 ae.nil fun hm hu hw am=>?_
 simp only [ao,Nat.zero_add,Nat.reduceAdd,ah,ai] at am
 refine aa.alloc am rr c4 ae.nil fun hH hO h1 ap=>?_
 simp only [ao,Nat.zero_add,Nat.reduceAdd,ah,ai] at ap
 refine aa.fin Z ?_;clear Z
 refine ad fun _ f=>?_
 refine mI a7 (.fork (dg [1,9]) (.fork (dg [2]) (.fork (dg [4]) (.line (dg [6,10,12,14,16,18])) (.fork (dg [10]) (.line (dg [6,12,14,16,18])) (.line (dg [12,6,14,16,18])))) (.fork (dg [10]) (.fork (dg [4]) (.line (dg [6,12,14,16,18])) (.line (dg [12,6,14,16,18]))) (.line (dg [12,4,6,14,16,18])))) (.fork (dg [10]) (.fork (dg [2]) (.fork (dg [4]) (.line (dg [6,12,14,16,18])) (.line (dg [12,6,14,16,18]))) (.line (dg [12,4,6,14,16,18]))) (.line (dg [12,2,4,6,14,16,18])))) (by kernel_rfl) (dJ ?_)
 have a0:=ap.drew
 refine c8 (lo:=0) (hi:=32) (m:=32) (c:=32) (o':=0) c' rr rr rr rr (by omega) (by omega) (by omega) (by omega)<|c8 (lo:=0) (hi:=32) (m:=32) (c:=32) (o':=0) c' rr rr rr rr (by omega) (by omega) (by omega) (by omega) ?_
 obtain ⟨id,ii,a⟩:=a
 obtain ⟨io,ip,a⟩:=a
 obtain ⟨is,it,a⟩:=a
 obtain ⟨i0,i1,a⟩:=a
 obtain ⟨i2,i3,a⟩:=a
 obtain ⟨i4,i5,a⟩:=a
 obtain ⟨i6,i7,a⟩:=a
 obtain ⟨i8,i9,a⟩:=a
 obtain ⟨jd,jp,a⟩:=a
 obtain ⟨kk,kw,a⟩:=a
 obtain ⟨g,h,a⟩:=a
 obtain ⟨j,l,a⟩:=a
 refine dK ?_ ?_
 ·
  refine dJ ?_
  refine aa.buildSlice a0 (ps:= [p8 1 (lit ([2#8]:List af))]) cq bJ df (by decide) (by decide) rr rr (by kernel_rfl) (av.keep ae.nil) fun p lc ld N=>?_
  simp only [ao,List.cons_append,List.nil_append] at N
  have s:Ow (some ⟨p,0,none⟩) (some p) ([2#8]:List af).length 1 (lit ([2#8]:List af)) ([2#8]:List af):=⟨.inr ⟨p,rfl,rfl⟩,Nat.le_refl _,rfl,fun q _=>rfl⟩
  refine dK ?_ ?_
  ·
   refine dJ ?_
   refine aa.buildSlice N (ps:= [(1,fun i=> .slice ((fun i=>([some ⟨p,0,none⟩]:List (Option Addr)).getD i none) i) ((fun i=>([([2#8]:List af).length]:List Nat).getD i 0) i) ((fun i=>([1]:List Nat).getD i 0) i))]) cV cW cU (by decide) (by decide) rr rr rr (av.keep ae.nil) fun le li lm O=>?_
   simp only [ao,List.cons_append,List.nil_append] at O
   refine dK ?_ ?_
   ·
    refine dd ?_
    refine aw cS (cR (iG1:=iG1+5) b (iG2:=iG2+5) d (by exact (bH (n:=32) (cc:=32) 4 rr (by omega) (by omega))) (by exact (bR.of 0 rr rr (fun i hi=>match i,hi with | 0,_=>⟨_,(s.bx 1 rr)⟩ | k+1,hk=>absurd hk (by omega)))) h O) ?_
    rintro _ ls ⟨rfl,a2⟩
    refine ⟨_,rr,.inl ⟨ae.keep (by exact ae.nil) a2,?_⟩⟩
    refine aa.buildSlice a2 (ps:= [p8 1 (lit ([1#8]:List af))]) cq bJ df (by decide) (by decide) rr rr (by kernel_rfl) (av.keep ae.nil) fun x lt lw a3=>?_
    simp only [ao,List.cons_append,List.nil_append] at a3
    have g6:Ow (some ⟨x,0,none⟩) (some x) ([1#8]:List af).length 1 (lit ([1#8]:List af)) ([1#8]:List af):=⟨.inr ⟨x,rfl,rfl⟩,Nat.le_refl _,rfl,fun q _=>rfl⟩
    refine aa.buildSlice a3 (ps:= [(1,fun i=> .slice ((fun i=>([some ⟨x,0,none⟩]:List (Option Addr)).getD i none) i) ((fun i=>([([1#8]:List af).length]:List Nat).getD i 0) i) ((fun i=>([1]:List Nat).getD i 0) i))]) cV cW cU (by decide) (by decide) rr rr rr (av.keep ae.nil) fun md mp ms a4=>?_
    simp only [ao,List.cons_append,List.nil_append] at a4
    refine aw cS (cR (iG1:=iG1+7) b (iG2:=iG2+7) d (by exact (bH (n:=32) (cc:=32) 6 rr (by omega) (by omega))) (by exact (bR.of 0 rr rr (fun i hi=>match i,hi with | 0,_=>⟨_,(g6.bx 1 rr)⟩ | k+1,hk=>absurd hk (by omega)))) l a4) ?_
    rintro _ mt ⟨rfl,a5⟩
    refine ⟨_,rr,.inl ⟨ae.keep (by exact ae.nil) a5,?_⟩⟩
    refine aY (f':=fun q=>VU .u8 (g q)) a5 5 rr rr rr rr (fun _ _=>rr) bP rr fun m0 a9=>?_
    simp only [ah,ai,aq,ar] at a9
    refine aY (f':=fun q=>VU .u8 (j q)) a9 4 rr rr rr rr (fun _ _=>rr) bP rr fun m1 y=>?_
    simp only [ah,ai,aq,ar] at y
    refine aa.fin f ?_;clear f
    refine W.ret (aB ?_)
    have be:=St.aF (C:= [_,_,_,_,_,_,_]) y [] (by decide)
    simp only [pick,aL,aK,aM,aJ,ah,ai] at be
    subst r
    refine ax.mk (.agg y rr (.cons 5 rr .nil) ba (.agg y rr (.cons 4 rr .nil) ba .nil)) ?_
    exact ⟨rr,be⟩
   ·
    refine dJ ?_
    refine aa.buildSlice O (ps:= [p8 1 (lit ([1#8]:List af))]) cq bJ df (by decide) (by decide) rr rr (by kernel_rfl) (av.keep ae.nil) fun u m2 m3 P=>?_
    simp only [ao,List.cons_append,List.nil_append] at P
    have bi:Ow (some ⟨u,0,none⟩) (some u) ([1#8]:List af).length 1 (lit ([1#8]:List af)) ([1#8]:List af):=⟨.inr ⟨u,rfl,rfl⟩,Nat.le_refl _,rfl,fun q _=>rfl⟩
    refine dK ?_ ?_
    ·
     refine dd ?_
     refine aw cS (cR (iG1:=iG1+6) b (iG2:=iG2+6) d (by exact (bH (n:=32) (cc:=32) 5 rr (by omega) (by omega))) (by exact (bR.of 1 rr rr (fun i hi=>match i,hi with | 0,_=>⟨_,(s.bx 2 rr)⟩ | k+1,hk=>absurd hk (by omega)))) h P) ?_
     rintro _ m4 ⟨rfl,bv⟩
     refine ⟨_,rr,.inl ⟨ae.keep (by exact ae.nil) bv,?_⟩⟩
     refine aa.buildSlice bv (ps:= [(1,fun i=> .slice ((fun i=>([some ⟨u,0,none⟩]:List (Option Addr)).getD i none) i) ((fun i=>([([1#8]:List af).length]:List Nat).getD i 0) i) ((fun i=>([1]:List Nat).getD i 0) i))]) cV cW cU (by decide) (by decide) rr rr rr (av.keep ae.nil) fun m5 m6 m7 cd=>?_
     simp only [ao,List.cons_append,List.nil_append] at cd
     refine aw cS (cR (iG1:=iG1+7) b (iG2:=iG2+7) d (by exact (bH (n:=32) (cc:=32) 6 rr (by omega) (by omega))) (by exact (bR.of 0 rr rr (fun i hi=>match i,hi with | 0,_=>⟨_,(bi.bx 1 rr)⟩ | k+1,hk=>absurd hk (by omega)))) l cd) ?_
     rintro _ m8 ⟨rfl,ce⟩
     refine ⟨_,rr,.inl ⟨ae.keep (by exact ae.nil) ce,?_⟩⟩
     refine aY (f':=fun q=>VU .u8 (g q)) ce 5 rr rr rr rr (fun _ _=>rr) bP rr fun m9 ci=>?_
     simp only [ah,ai,aq,ar] at ci
     refine aY (f':=fun q=>VU .u8 (j q)) ci 4 rr rr rr rr (fun _ _=>rr) bP rr fun m' z=>?_
     simp only [ah,ai,aq,ar] at z
     refine aa.fin f ?_;clear f
     refine W.ret (aB ?_)
     have cl:=St.aF (C:= [_,_,_,_,_,_,_]) z [] (by decide)
     simp only [pick,aL,aK,aM,aJ,ah,ai] at cl
     subst r
     refine ax.mk (.agg z rr (.cons 5 rr .nil) ba (.agg z rr (.cons 4 rr .nil) ba .nil)) ?_
     exact ⟨rr,cl⟩
    ·
     refine dd ?_
     refine aa.buildSlice P (ps:= [(1,fun i=> .slice ((fun i=>([some ⟨u,0,none⟩]:List (Option Addr)).getD i none) i) ((fun i=>([([1#8]:List af).length]:List Nat).getD i 0) i) ((fun i=>([1]:List Nat).getD i 0) i))]) cV cW cU (by decide) (by decide) rr rr rr (av.keep ae.nil) fun ne nl no co=>?_
     simp only [ao,List.cons_append,List.nil_append] at co
     refine aw cS (cR (iG1:=iG1+7) b (iG2:=iG2+7) d (by exact (bH (n:=32) (cc:=32) 6 rr (by omega) (by omega))) (by exact (bR.of 2 rr rr (fun i hi=>match i,hi with | 0,_=>⟨_,(s.bx 3 rr)⟩ | k+1,hk=>absurd hk (by omega)))) h co) ?_
     rintro _ n5 ⟨rfl,cs⟩
     refine ⟨_,rr,.inl ⟨ae.keep (by exact ae.nil) cs,?_⟩⟩
     refine aw cS (cR (iG1:=iG1+7) b (iG2:=iG2+7) d (by exact (bH (n:=32) (cc:=32) 6 rr (by omega) (by omega))) (by exact (bR.of 0 rr rr (fun i hi=>match i,hi with | 0,_=>⟨_,(bi.bx 1 rr)⟩ | k+1,hk=>absurd hk (by omega)))) l cs) ?_
     rintro _ n6 ⟨rfl,c1⟩
     refine ⟨_,rr,.inl ⟨ae.keep (by exact ae.nil) c1,?_⟩⟩
     refine aY (f':=fun q=>VU .u8 (g q)) c1 5 rr rr rr rr (fun _ _=>rr) bP rr fun n7 c2=>?_
     simp only [ah,ai,aq,ar] at c2
     refine aY (f':=fun q=>VU .u8 (j q)) c2 4 rr rr rr rr (fun _ _=>rr) bP rr fun n8 A=>?_
     simp only [ah,ai,aq,ar] at A
     refine aa.fin f ?_;clear f
     refine W.ret (aB ?_)
     have dl:=St.aF (C:= [_,_,_,_,_,_,_]) A [] (by decide)
     simp only [pick,aL,aK,aM,aJ,ah,ai] at dl
     subst r
     refine ax.mk (.agg A rr (.cons 5 rr .nil) ba (.agg A rr (.cons 4 rr .nil) ba .nil)) ?_
     exact ⟨rr,dl⟩
  ·
   refine dJ ?_
   refine aa.buildSlice N (ps:= [p8 1 (lit ([1#8]:List af))]) cq bJ df (by decide) (by decide) rr rr (by kernel_rfl) (av.keep ae.nil) fun t ok ol Q=>?_
   simp only [ao,List.cons_append,List.nil_append] at Q
   have R:Ow (some ⟨t,0,none⟩) (some t) ([1#8]:List af).length 1 (lit ([1#8]:List af)) ([1#8]:List af):=⟨.inr ⟨t,rfl,rfl⟩,Nat.le_refl _,rfl,fun q _=>rfl⟩
   refine dK ?_ ?_
   ·
    refine dJ ?_
    refine aa.buildSlice Q (ps:= [(1,fun i=> .slice ((fun i=>([some ⟨p,0,none⟩]:List (Option Addr)).getD i none) i) ((fun i=>([([2#8]:List af).length]:List Nat).getD i 0) i) ((fun i=>([1]:List Nat).getD i 0) i))]) cV cW cU (by decide) (by decide) rr rr rr (av.keep ae.nil) fun on op or S=>?_
    simp only [ao,List.cons_append,List.nil_append] at S
    refine dK ?_ ?_
    ·
     refine dd ?_
     refine aw cS (cR (iG1:=iG1+6) b (iG2:=iG2+6) d (by exact (bH (n:=32) (cc:=32) 5 rr (by omega) (by omega))) (by exact (bR.of 0 rr rr (fun i hi=>match i,hi with | 0,_=>⟨_,(s.bx 2 rr)⟩ | k+1,hk=>absurd hk (by omega)))) h S) ?_
     rintro _ os ⟨rfl,ds⟩
     refine ⟨_,rr,.inl ⟨ae.keep (by exact ae.nil) ds,?_⟩⟩
     refine aa.buildSlice ds (ps:= [(1,fun i=> .slice ((fun i=>([some ⟨t,0,none⟩]:List (Option Addr)).getD i none) i) ((fun i=>([([1#8]:List af).length]:List Nat).getD i 0) i) ((fun i=>([1]:List Nat).getD i 0) i))]) cV cW cU (by decide) (by decide) rr rr rr (av.keep ae.nil) fun pi pl pm d0=>?_
     simp only [ao,List.cons_append,List.nil_append] at d0
     refine aw cS (cR (iG1:=iG1+7) b (iG2:=iG2+7) d (by exact (bH (n:=32) (cc:=32) 6 rr (by omega) (by omega))) (by exact (bR.of 0 rr rr (fun i hi=>match i,hi with | 0,_=>⟨_,(R.bx 2 rr)⟩ | k+1,hk=>absurd hk (by omega)))) l d0) ?_
     rintro _ pp ⟨rfl,d1⟩
     refine ⟨_,rr,.inl ⟨ae.keep (by exact ae.nil) d1,?_⟩⟩
     refine aY (f':=fun q=>VU .u8 (g q)) d1 5 rr rr rr rr (fun _ _=>rr) bP rr fun pu d2=>?_
     simp only [ah,ai,aq,ar] at d2
     refine aY (f':=fun q=>VU .u8 (j q)) d2 4 rr rr rr rr (fun _ _=>rr) bP rr fun qr D=>?_
     simp only [ah,ai,aq,ar] at D
     refine aa.fin f ?_;clear f
     refine W.ret (aB ?_)
     have d3:=St.aF (C:= [_,_,_,_,_,_,_]) D [] (by decide)
     simp only [pick,aL,aK,aM,aJ,ah,ai] at d3
     subst r
     refine ax.mk (.agg D rr (.cons 5 rr .nil) ba (.agg D rr (.cons 4 rr .nil) ba .nil)) ?_
     exact ⟨rr,d3⟩
    ·
     refine dd ?_
     refine aa.buildSlice S (ps:= [(1,fun i=> .slice ((fun i=>([some ⟨t,0,none⟩]:List (Option Addr)).getD i none) i) ((fun i=>([([1#8]:List af).length]:List Nat).getD i 0) i) ((fun i=>([1]:List Nat).getD i 0) i))]) cV cW cU (by decide) (by decide) rr rr rr (av.keep ae.nil) fun rc rd rg d4=>?_
     simp only [ao,List.cons_append,List.nil_append] at d4
     refine aw cS (cR (iG1:=iG1+7) b (iG2:=iG2+7) d (by exact (bH (n:=32) (cc:=32) 6 rr (by omega) (by omega))) (by exact (bR.of 1 rr rr (fun i hi=>match i,hi with | 0,_=>⟨_,(s.bx 3 rr)⟩ | k+1,hk=>absurd hk (by omega)))) h d4) ?_
     rintro _ ro ⟨rfl,d5⟩
     refine ⟨_,rr,.inl ⟨ae.keep (by exact ae.nil) d5,?_⟩⟩
     refine aw cS (cR (iG1:=iG1+7) b (iG2:=iG2+7) d (by exact (bH (n:=32) (cc:=32) 6 rr (by omega) (by omega))) (by exact (bR.of 0 rr rr (fun i hi=>match i,hi with | 0,_=>⟨_,(R.bx 2 rr)⟩ | k+1,hk=>absurd hk (by omega)))) l d5) ?_
     rintro _ rs ⟨rfl,d6⟩
     refine ⟨_,rr,.inl ⟨ae.keep (by exact ae.nil) d6,?_⟩⟩
     refine aY (f':=fun q=>VU .u8 (g q)) d6 5 rr rr rr rr (fun _ _=>rr) bP rr fun rt d7=>?_
     simp only [ah,ai,aq,ar] at d7
     refine aY (f':=fun q=>VU .u8 (j q)) d7 4 rr rr rr rr (fun _ _=>rr) bP rr fun rx E=>?_
     simp only [ah,ai,aq,ar] at E
     refine aa.fin f ?_;clear f
     refine W.ret (aB ?_)
     have d8:=St.aF (C:= [_,_,_,_,_,_,_]) E [] (by decide)
     simp only [pick,aL,aK,aM,aJ,ah,ai] at d8
     subst r
     refine ax.mk (.agg E rr (.cons 5 rr .nil) ba (.agg E rr (.cons 4 rr .nil) ba .nil)) ?_
     exact ⟨rr,d8⟩
   ·
    refine dd ?_
    refine aa.buildSlice Q (ps:= [(1,fun i=> .slice ((fun i=>([some ⟨t,0,none⟩]:List (Option Addr)).getD i none) i) ((fun i=>([([1#8]:List af).length]:List Nat).getD i 0) i) ((fun i=>([1]:List Nat).getD i 0) i))]) cV cW cU (by decide) (by decide) rr rr rr (av.keep ae.nil) fun sp st sz d9=>?_
    simp only [ao,List.cons_append,List.nil_append] at d9
    refine aa.buildSlice d9 (ps:= [(1,fun i=> .slice ((fun i=>([some ⟨p,0,none⟩]:List (Option Addr)).getD i none) i) ((fun i=>([([2#8]:List af).length]:List Nat).getD i 0) i) ((fun i=>([1]:List Nat).getD i 0) i))]) cV cW cU (by decide) (by decide) rr rr rr (av.keep ae.nil) fun s1 s2 s3 el=>?_
    simp only [ao,List.cons_append,List.nil_append] at el
    refine aw cS (cR (iG1:=iG1+7) b (iG2:=iG2+7) d (by exact (bH (n:=32) (cc:=32) 6 rr (by omega) (by omega))) (by exact (bR.of 0 rr rr (fun i hi=>match i,hi with | 0,_=>⟨_,(s.bx 3 rr)⟩ | k+1,hk=>absurd hk (by omega)))) h el) ?_
    rintro _ s4 ⟨rfl,em⟩
    refine ⟨_,rr,.inl ⟨ae.keep (by exact ae.nil) em,?_⟩⟩
    refine aw cS (cR (iG1:=iG1+7) b (iG2:=iG2+7) d (by exact (bH (n:=32) (cc:=32) 6 rr (by omega) (by omega))) (by exact (bR.of 1 rr rr (fun i hi=>match i,hi with | 0,_=>⟨_,(R.bx 2 rr)⟩ | k+1,hk=>absurd hk (by omega)))) l em) ?_
    rintro _ s5 ⟨rfl,eq⟩
    refine ⟨_,rr,.inl ⟨ae.keep (by exact ae.nil) eq,?_⟩⟩
    refine aY (f':=fun q=>VU .u8 (g q)) eq 5 rr rr rr rr (fun _ _=>rr) bP rr fun s6 es=>?_
    simp only [ah,ai,aq,ar] at es
    refine aY (f':=fun q=>VU .u8 (j q)) es 4 rr rr rr rr (fun _ _=>rr) bP rr fun s7 F=>?_
    simp only [ah,ai,aq,ar] at F
    refine aa.fin f ?_;clear f
    refine W.ret (aB ?_)
    have ex:=St.aF (C:= [_,_,_,_,_,_,_]) F [] (by decide)
    simp only [pick,aL,aK,aM,aJ,ah,ai] at ex
    subst r
    refine ax.mk (.agg F rr (.cons 5 rr .nil) ba (.agg F rr (.cons 4 rr .nil) ba .nil)) ?_
    exact ⟨rr,ex⟩
 ·
  refine dJ ?_
  refine aa.buildSlice a0 (ps:= [p8 1 (lit ([1#8]:List af))]) cq bJ df (by decide) (by decide) rr rr (by kernel_rfl) (av.keep ae.nil) fun o s8 s9 T=>?_
  simp only [ao,List.cons_append,List.nil_append] at T
  have G:Ow (some ⟨o,0,none⟩) (some o) ([1#8]:List af).length 1 (lit ([1#8]:List af)) ([1#8]:List af):=⟨.inr ⟨o,rfl,rfl⟩,Nat.le_refl _,rfl,fun q _=>rfl⟩
  refine dK ?_ ?_
  ·
   refine dJ ?_
   refine aa.buildSlice T (ps:= [p8 1 (lit ([2#8]:List af))]) cq bJ df (by decide) (by decide) rr rr (by kernel_rfl) (av.keep ae.nil) fun v s' to U=>?_
   simp only [ao,List.cons_append,List.nil_append] at U
   have V:Ow (some ⟨v,0,none⟩) (some v) ([2#8]:List af).length 1 (lit ([2#8]:List af)) ([2#8]:List af):=⟨.inr ⟨v,rfl,rfl⟩,Nat.le_refl _,rfl,fun q _=>rfl⟩
   refine dK ?_ ?_
   ·
    refine dJ ?_
    refine aa.buildSlice U (ps:= [(1,fun i=> .slice ((fun i=>([some ⟨v,0,none⟩]:List (Option Addr)).getD i none) i) ((fun i=>([([2#8]:List af).length]:List Nat).getD i 0) i) ((fun i=>([1]:List Nat).getD i 0) i))]) cV cW cU (by decide) (by decide) rr rr rr (av.keep ae.nil) fun ty t0 t1 X=>?_
    simp only [ao,List.cons_append,List.nil_append] at X
    refine dK ?_ ?_
    ·
     refine dd ?_
     refine aw cS (cR (iG1:=iG1+6) b (iG2:=iG2+6) d (by exact (bH (n:=32) (cc:=32) 5 rr (by omega) (by omega))) (by exact (bR.of 0 rr rr (fun i hi=>match i,hi with | 0,_=>⟨_,(V.bx 1 rr)⟩ | k+1,hk=>absurd hk (by omega)))) h X) ?_
     rintro _ t2 ⟨rfl,fd⟩
     refine ⟨_,rr,.inl ⟨ae.keep (by exact ae.nil) fd,?_⟩⟩
     refine aa.buildSlice fd (ps:= [(1,fun i=> .slice ((fun i=>([some ⟨o,0,none⟩]:List (Option Addr)).getD i none) i) ((fun i=>([([1#8]:List af).length]:List Nat).getD i 0) i) ((fun i=>([1]:List Nat).getD i 0) i))]) cV cW cU (by decide) (by decide) rr rr rr (av.keep ae.nil) fun t3 t4 t5 fn=>?_
     simp only [ao,List.cons_append,List.nil_append] at fn
     refine aw cS (cR (iG1:=iG1+7) b (iG2:=iG2+7) d (by exact (bH (n:=32) (cc:=32) 6 rr (by omega) (by omega))) (by exact (bR.of 0 rr rr (fun i hi=>match i,hi with | 0,_=>⟨_,(G.bx 3 rr)⟩ | k+1,hk=>absurd hk (by omega)))) l fn) ?_
     rintro _ t6 ⟨rfl,f0⟩
     refine ⟨_,rr,.inl ⟨ae.keep (by exact ae.nil) f0,?_⟩⟩
     refine aY (f':=fun q=>VU .u8 (g q)) f0 5 rr rr rr rr (fun _ _=>rr) bP rr fun t7 f1=>?_
     simp only [ah,ai,aq,ar] at f1
     refine aY (f':=fun q=>VU .u8 (j q)) f1 4 rr rr rr rr (fun _ _=>rr) bP rr fun t8 H=>?_
     simp only [ah,ai,aq,ar] at H
     refine aa.fin f ?_;clear f
     refine W.ret (aB ?_)
     have f2:=St.aF (C:= [_,_,_,_,_,_,_]) H [] (by decide)
     simp only [pick,aL,aK,aM,aJ,ah,ai] at f2
     subst r
     refine ax.mk (.agg H rr (.cons 5 rr .nil) ba (.agg H rr (.cons 4 rr .nil) ba .nil)) ?_
     exact ⟨rr,f2⟩
    ·
     refine dd ?_
     refine aa.buildSlice X (ps:= [(1,fun i=> .slice ((fun i=>([some ⟨o,0,none⟩]:List (Option Addr)).getD i none) i) ((fun i=>([([1#8]:List af).length]:List Nat).getD i 0) i) ((fun i=>([1]:List Nat).getD i 0) i))]) cV cW cU (by decide) (by decide) rr rr rr (av.keep ae.nil) fun t9 t' ul f3=>?_
     simp only [ao,List.cons_append,List.nil_append] at f3
     refine aw cS (cR (iG1:=iG1+7) b (iG2:=iG2+7) d (by exact (bH (n:=32) (cc:=32) 6 rr (by omega) (by omega))) (by exact (bR.of 1 rr rr (fun i hi=>match i,hi with | 0,_=>⟨_,(V.bx 2 rr)⟩ | k+1,hk=>absurd hk (by omega)))) h f3) ?_
     rintro _ un ⟨rfl,f4⟩
     refine ⟨_,rr,.inl ⟨ae.keep (by exact ae.nil) f4,?_⟩⟩
     refine aw cS (cR (iG1:=iG1+7) b (iG2:=iG2+7) d (by exact (bH (n:=32) (cc:=32) 6 rr (by omega) (by omega))) (by exact (bR.of 0 rr rr (fun i hi=>match i,hi with | 0,_=>⟨_,(G.bx 3 rr)⟩ | k+1,hk=>absurd hk (by omega)))) l f4) ?_
     rintro _ up ⟨rfl,f5⟩
     refine ⟨_,rr,.inl ⟨ae.keep (by exact ae.nil) f5,?_⟩⟩
     refine aY (f':=fun q=>VU .u8 (g q)) f5 5 rr rr rr rr (fun _ _=>rr) bP rr fun us f6=>?_
     simp only [ah,ai,aq,ar] at f6
     refine aY (f':=fun q=>VU .u8 (j q)) f6 4 rr rr rr rr (fun _ _=>rr) bP rr fun ut I=>?_
     simp only [ah,ai,aq,ar] at I
     refine aa.fin f ?_;clear f
     refine W.ret (aB ?_)
     have f7:=St.aF (C:= [_,_,_,_,_,_,_]) I [] (by decide)
     simp only [pick,aL,aK,aM,aJ,ah,ai] at f7
     subst r
     refine ax.mk (.agg I rr (.cons 5 rr .nil) ba (.agg I rr (.cons 4 rr .nil) ba .nil)) ?_
     exact ⟨rr,f7⟩
   ·
    refine dd ?_
    refine aa.buildSlice U (ps:= [(1,fun i=> .slice ((fun i=>([some ⟨o,0,none⟩]:List (Option Addr)).getD i none) i) ((fun i=>([([1#8]:List af).length]:List Nat).getD i 0) i) ((fun i=>([1]:List Nat).getD i 0) i))]) cV cW cU (by decide) (by decide) rr rr rr (av.keep ae.nil) fun vs v0 v1 f8=>?_
    simp only [ao,List.cons_append,List.nil_append] at f8
    refine aa.buildSlice f8 (ps:= [(1,fun i=> .slice ((fun i=>([some ⟨v,0,none⟩]:List (Option Addr)).getD i none) i) ((fun i=>([([2#8]:List af).length]:List Nat).getD i 0) i) ((fun i=>([1]:List Nat).getD i 0) i))]) cV cW cU (by decide) (by decide) rr rr rr (av.keep ae.nil) fun v2 v3 v4 f9=>?_
    simp only [ao,List.cons_append,List.nil_append] at f9
    refine aw cS (cR (iG1:=iG1+7) b (iG2:=iG2+7) d (by exact (bH (n:=32) (cc:=32) 6 rr (by omega) (by omega))) (by exact (bR.of 0 rr rr (fun i hi=>match i,hi with | 0,_=>⟨_,(V.bx 2 rr)⟩ | k+1,hk=>absurd hk (by omega)))) h f9) ?_
    rintro _ v5 ⟨rfl,gc⟩
    refine ⟨_,rr,.inl ⟨ae.keep (by exact ae.nil) gc,?_⟩⟩
    refine aw cS (cR (iG1:=iG1+7) b (iG2:=iG2+7) d (by exact (bH (n:=32) (cc:=32) 6 rr (by omega) (by omega))) (by exact (bR.of 1 rr rr (fun i hi=>match i,hi with | 0,_=>⟨_,(G.bx 3 rr)⟩ | k+1,hk=>absurd hk (by omega)))) l gc) ?_
    rintro _ v6 ⟨rfl,gd⟩
    refine ⟨_,rr,.inl ⟨ae.keep (by exact ae.nil) gd,?_⟩⟩
    refine aY (f':=fun q=>VU .u8 (g q)) gd 5 rr rr rr rr (fun _ _=>rr) bP rr fun v9 ge=>?_
    simp only [ah,ai,aq,ar] at ge
    refine aY (f':=fun q=>VU .u8 (j q)) ge 4 rr rr rr rr (fun _ _=>rr) bP rr fun wd J=>?_
    simp only [ah,ai,aq,ar] at J
    refine aa.fin f ?_;clear f
    refine W.ret (aB ?_)
    have go:=St.aF (C:= [_,_,_,_,_,_,_]) J [] (by decide)
    simp only [pick,aL,aK,aM,aJ,ah,ai] at go
    subst r
    refine ax.mk (.agg J rr (.cons 5 rr .nil) ba (.agg J rr (.cons 4 rr .nil) ba .nil)) ?_
    exact ⟨rr,go⟩
  ·
   refine dd ?_
   refine aa.buildSlice T (ps:= [(1,fun i=> .slice ((fun i=>([some ⟨o,0,none⟩]:List (Option Addr)).getD i none) i) ((fun i=>([([1#8]:List af).length]:List Nat).getD i 0) i) ((fun i=>([1]:List Nat).getD i 0) i))]) cV cW cU (by decide) (by decide) rr rr rr (av.keep ae.nil) fun wf wl wn gs=>?_
   simp only [ao,List.cons_append,List.nil_append] at gs
   refine aa.buildSlice gs (ps:= [p8 1 (lit ([2#8]:List af))]) cq bJ df (by decide) (by decide) rr rr (by kernel_rfl) (av.keep ae.nil) fun K wp wr gt=>?_
   simp only [ao,List.cons_append,List.nil_append] at gt
   have g7:Ow (some ⟨K,0,none⟩) (some K) ([2#8]:List af).length 1 (lit ([2#8]:List af)) ([2#8]:List af):=⟨.inr ⟨K,rfl,rfl⟩,Nat.le_refl _,rfl,fun q _=>rfl⟩
   refine aa.buildSlice gt (ps:= [(1,fun i=> .slice ((fun i=>([some ⟨K,0,none⟩]:List (Option Addr)).getD i none) i) ((fun i=>([([2#8]:List af).length]:List Nat).getD i 0) i) ((fun i=>([1]:List Nat).getD i 0) i))]) cV cW cU (by decide) (by decide) rr rr rr (av.keep ae.nil) fun ws wt ww g0=>?_
   simp only [ao,List.cons_append,List.nil_append] at g0
   refine aw cS (cR (iG1:=iG1+7) b (iG2:=iG2+7) d (by exact (bH (n:=32) (cc:=32) 6 rr (by omega) (by omega))) (by exact (bR.of 0 rr rr (fun i hi=>match i,hi with | 0,_=>⟨_,(g7.bx 1 rr)⟩ | k+1,hk=>absurd hk (by omega)))) h g0) ?_
   rintro _ xs ⟨rfl,g1⟩
   refine ⟨_,rr,.inl ⟨ae.keep (by exact ae.nil) g1,?_⟩⟩
   refine aw cS (cR (iG1:=iG1+7) b (iG2:=iG2+7) d (by exact (bH (n:=32) (cc:=32) 6 rr (by omega) (by omega))) (by exact (bR.of 2 rr rr (fun i hi=>match i,hi with | 0,_=>⟨_,(G.bx 3 rr)⟩ | k+1,hk=>absurd hk (by omega)))) l g1) ?_
   rintro _ zf ⟨rfl,g2⟩
   refine ⟨_,rr,.inl ⟨ae.keep (by exact ae.nil) g2,?_⟩⟩
   refine aY (f':=fun q=>VU .u8 (g q)) g2 5 rr rr rr rr (fun _ _=>rr) bP rr fun z0 g3=>?_
   simp only [ah,ai,aq,ar] at g3
   refine aY (f':=fun q=>VU .u8 (j q)) g3 4 rr rr rr rr (fun _ _=>rr) bP rr fun z1 M=>?_
   simp only [ah,ai,aq,ar] at M
   refine aa.fin f ?_;clear f
   refine W.ret (aB ?_)
   have g4:=St.aF (C:= [_,_,_,_,_,_,_]) M [] (by decide)
   simp only [pick,aL,aK,aM,aJ,ah,ai] at g4
   subst r
   refine ax.mk (.agg M rr (.cons 5 rr .nil) ba (.agg M rr (.cons 4 rr .nil) ba .nil)) ?_
   exact ⟨rr,g4⟩
end Go.Proofs.YtjclppnbbpnfnaaGreatDoor
