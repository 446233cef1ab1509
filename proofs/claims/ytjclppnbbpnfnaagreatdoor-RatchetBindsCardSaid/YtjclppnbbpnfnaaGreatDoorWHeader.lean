/-
 WALKS of the package's functions, printed by this session's own program (auto.py).
-/
import Derived.Test.YtjclppnbbpnfnaaGreatDoorWF
import Derived.Test.YtjclppnbbpnfnaaGreatDoorProg
import Derived.Test.YtjclppnbbpnfnaaGreatDoorEd
import Derived.Test.YtjclppnbbpnfnaaGreatDoorRHeader
import Derived.Test.YtjclppnbbpnfnaaGreatDoorEls
import Derived.Test.YtjclppnbbpnfnaaGreatDoorWWire
namespace Go.Proofs.YtjclppnbbpnfnaaGreatDoor
set_option linter.unusedSimpArgs false
set_option linter.unusedVariables false
set_option linter.unusedSectionVars false
set_option maxRecDepth 8000
set_option maxHeartbeats 1000000
open Go Go.LW
theorem sO {B:Nat} {w0:aC} {w:World} {L:List Rg} {a:U4} {r:(List af)} (m:ly a r) (n:St B w0 (L) w):
  Calls Tryz.prog 72 #[VU .u32 a] w fun e w'=>∃f:Option Addr,∃g:Option Nat,∃h d:Nat,∃i:Nat→af,e= .returned (.slice f h d)∧St B w0 (gO g d i::L) w'∧Ow f g h d i r:=by
 refine W.enter 15 Tryz.func72 rr rr rr ?_
 unfold ly at m
 refine ad fun _ j=>ag 1 1 ?_
 refine aV rr rr<|aa.fin j ?_;clear j
 refine ad fun _ k=>ag 13 6143 ?_
 refine aj rr rr<|cJ .u32 (X:=a) (c:=24) rr rr rr<|dU .u8 (X:=(a >>> 24)) cw eP rr rr<|aj rr rr<|cJ .u32 (X:=a) (c:=16) rr rr rr<|dU .u8 (X:=(a >>> 16)) cw eP rr rr<|aj rr rr<|cJ .u32 (X:=a) (c:=8) rr rr rr ?_
 refine dU .u8 (X:=(a >>> 8)) cw eP rr rr<|aj rr rr<|dU .u8 (X:=a) cw eP rr rr ?_
 refine aa.buildSlice n (ps:= [p8 4 (lit ([((a >>> 24).setWidth 8),((a >>> 16).setWidth 8),((a >>> 8).setWidth 8),(a.setWidth 8)]:List af))]) cq bJ df (by decide) (by decide) rr rr rr (av.keep ae.nil) fun b p s l=>?_
 simp only [ao,List.cons_append,List.nil_append] at l
 have o:Ow (some ⟨b,0,none⟩) (some b) ([((a >>> 24).setWidth 8),((a >>> 16).setWidth 8),((a >>> 8).setWidth 8),(a.setWidth 8)]:List af).length 4 (lit ([((a >>> 24).setWidth 8),((a >>> 16).setWidth 8),((a >>> 8).setWidth 8),(a.setWidth 8)]:List af)) ([((a >>> 24).setWidth 8),((a >>> 16).setWidth 8),((a >>> 8).setWidth 8),(a.setWidth 8)]:List af):=⟨.inr ⟨b,rfl,rfl⟩,Nat.le_refl _,rfl,fun q _=>rfl⟩
 refine aV rr rr<|aa.fin k ?_;clear k
 refine W.ret (aB ?_)
 subst r
 refine ax.mk (.bD rr .nil) ?_
 exact ⟨some ⟨b,0,none⟩,some b,([((a >>> 24).setWidth 8),((a >>> 16).setWidth 8),((a >>> 8).setWidth 8),(a.setWidth 8)]:List af).length,4,(lit ([((a >>> 24).setWidth 8),((a >>> 16).setWidth 8),((a >>> 8).setWidth 8),(a.setWidth 8)]:List af)),rr,l,o⟩
theorem lk {B:Nat} {w0:aC} {w:World} {L:List Rg} {f:K8} {g:U4} {h:K8} {j l:U4} {r:(List af)} (a:mm f g h j l r) (J:St B w0 (L) w):
  Calls Tryz.prog 38 #[AG [p8 16 f,p4 g,p8 32 h,p4 j,p4 l]] w fun e w'=>∃o:Option Addr,∃p:Option Nat,∃q d:Nat,∃s:Nat→af,e= .returned (.slice o q d)∧St B w0 (gO p d s::L) w'∧Ow o p q d s r:=by
 refine W.enter 18 Tryz.func38 rr rr rr ?_
 unfold mm at a
 refine ad fun _ t=>ag 2 2 ?_
 refine bp J rr rr ae.nil fun u a4 a5 v=>?_
 simp only [ao,Nat.zero_add,Nat.reduceAdd,ah,ai] at v
 refine aV rr rr<|aa.fin t ?_;clear t
 refine ad fun _ x=>?_
 refine bd a7 [1,3,5,7,11,13,15,17,21,23,8,18,24,26,28,31] ?_
 have b:=v.drew
 refine bm ur rr rr<|c8 (lo:=0) (hi:=16) (m:=16) (c:=16) (o':=0) FO rr rr rr rr (by omega) (by omega) (by omega) (by omega)<|aa.fieldAddr 16 gi rr rr<|aX b 1 rr rr rr (by omega) bf<|aa.fieldAddr 17 l_ rr rr<|c8 (lo:=0) (hi:=32) (m:=32) (c:=32) (o':=17) c' rr rr rr rr (by omega) (by omega) (by omega) (by omega)<|aa.fieldAddr 49 oj rr rr<|aX b 3 rr rr rr (by omega) bf ?_
 refine aa.fieldAddr 50 gl rr rr<|aX b 4 rr rr rr (by omega) bf ?_
 obtain ⟨K,M,a⟩:=a
 refine dm sE (sO M b) ?_
 rintro _ a9 ⟨N,be,bi,O,bv,rfl,y,z⟩
 obtain rfl:=z.hl
 refine ⟨_,rr,_,_,_,_,y,(by exact (av.mix _ (aH.keep rr (aH.keep rr (aH.drop rr aH.nil))) (ae.cons 5 rr (ae.cons 4 rr ae.nil)))),?_⟩
 obtain ⟨P,Q,a⟩:=a
 refine dm sE (sO Q y) ?_
 rintro _ cd ⟨R,ce,ci,S,cl,rfl,A,D⟩
 obtain rfl:=D.hl
 refine ⟨_,rr,_,_,_,_,A,(by exact (av.mix _ (aH.keep rr (aH.drop rr aH.nil)) (ae.cons 6 rr ae.nil))),?_⟩
 obtain ⟨T,U,a⟩:=a
 refine aw sE (sO U A) ?_
 rintro _ co ⟨V,cs,c1,X,c2,rfl,Y,E⟩
 obtain rfl:=E.hl
 refine ⟨_,rr,.inr ⟨rr,?_⟩⟩
 refine aa.buildSlice Y (ps:= [(5,fun i=> .slice ((fun i=>([some ⟨u,0,none⟩,N,some ⟨u,17,none⟩,R,V]:List (Option Addr)).getD i none) i) ((fun i=>([16,K.length,32,P.length,T.length]:List Nat).getD i 0) i) ((fun i=>([16,O,32,S,X]:List Nat).getD i 0) i))]) cV cW cU (by decide) (by decide) rr rr rr (av.keep ae.nil) fun dl ds d0 F=>?_
 simp only [ao,List.cons_append,List.nil_append] at F
 obtain ⟨Z,am,a⟩:=a
 refine aw xZ (ve (by exact (bR.of 0 rr rr (fun i hi=>match i,hi with | 0,_=>⟨_,(bH (n:=16) (cc:=16) 4 rr (by omega) (by omega))⟩ | 1,_=>⟨_,(z.bx 3 rr)⟩ | 2,_=>⟨_,(bH (n:=32) (cc:=32) 6 rr (by omega) (by omega))⟩ | 3,_=>⟨_,(D.bx 2 rr)⟩ | 4,_=>⟨_,(E.bx 1 rr)⟩ | k+5,hk=>absurd hk (by omega)))) am F) ?_
 rintro _ d1 ⟨ap,a0,d2,a2,a3,rfl,G,H⟩
 obtain rfl:=H.hl
 refine ⟨_,rr,.inl ⟨ae.keep (by exact ae.nil) G,?_⟩⟩
 refine aV rr rr<|aa.fin x ?_;clear x
 refine W.ret (aB ?_)
 have I:=St.aF (C:= [_,_,_,_,_,_,_,_,_,_]) G [0] (by decide)
 simp only [pick,aL,aK,aM,aJ,ah,ai] at I
 subst r
 refine ax.mk (.bD rr .nil) ?_
 exact ⟨ap,a0,Z.length,a2,a3,rr,I,H⟩
end Go.Proofs.YtjclppnbbpnfnaaGreatDoor
