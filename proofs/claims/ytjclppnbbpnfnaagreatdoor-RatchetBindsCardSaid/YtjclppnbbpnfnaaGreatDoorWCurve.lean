/-
 WALKS of the package's functions, printed by this session's own program (auto.py).
-/
import Derived.Test.YtjclppnbbpnfnaaGreatDoorWF
import Derived.Test.YtjclppnbbpnfnaaGreatDoorProg
import Derived.Test.YtjclppnbbpnfnaaGreatDoorEd
import Derived.Test.YtjclppnbbpnfnaaGreatDoorRCurve
import Derived.Test.YtjclppnbbpnfnaaGreatDoorEls
import Derived.Test.YtjclppnbbpnfnaaGreatDoorWField
namespace Go.Proofs.YtjclppnbbpnfnaaGreatDoor
set_option linter.unusedSimpArgs false
set_option linter.unusedVariables false
set_option linter.unusedSectionVars false
set_option maxRecDepth 8000
set_option maxHeartbeats 1000000
open Go Go.LW
theorem yC {B:Nat} {w0:aC} {w:World} {L:List Rg} {a r:K8} (m:nw a r) (n:St B w0 (L) w):
  Calls Tryz.prog 56 #[AG [p8 32 a]] w fun e w'=>e= .returned (AG [p8 32 r])∧St B w0 (L) w':=by
 refine W.enter 13 Tryz.func56 rr rr rr ?_
 unfold nw at m
 refine ad fun _ g=>ag 2 0 ?_
 refine bp n rr rr ae.nil fun o p s h3=>?_
 simp only [ao,Nat.zero_add,Nat.reduceAdd,ah,ai] at h3
 refine aa.alloc h3 rr c4 ae.nil fun t u v b=>?_
 simp only [ao,Nat.zero_add,Nat.reduceAdd,ah,ai] at b
 refine aa.fin g ?_;clear g
 refine ad fun _ h=>ag 5 15 ?_
 refine a1 (j:=0) c' rr rr rr (by omega)<|bk (j:=0) b 1 rr rr rr (by omega) bZ<|Fu .u8 (X:=(a 0)) (Y:=7#8) rr rr rr<|a1 (j:=0) c' rr rr rr (by omega) ?_
 refine cr (j:=0) (X:=((a 0) &&& ~~~(7#8))) b 1 rr rr rr rr (by omega) bJ rr fun x c=>?_
 simp only [ah,ai,aq,ar] at c
 refine aa.fin h ?_;clear h
 refine ad fun _ i=>ag 6 31 ?_
 refine a1 (j:=31) c' rr rr rr (by omega)<|bk (j:=31) c 1 rr rr rr (by omega) bZ<|dx .u8 (X:=((an a 0 ((a 0) &&& ~~~(7#8))) 31)) (Y:=127#8) rr rr rr<|gI .u8 (X:=(((an a 0 ((a 0) &&& ~~~(7#8))) 31) &&& (127#8))) (Y:=64#8) rr rr rr<|a1 (j:=31) c' rr rr rr (by omega) ?_
 refine cr (j:=31) (X:=((((an a 0 ((a 0) &&& ~~~(7#8))) 31) &&& (127#8)) ||| (64#8))) c 1 rr rr rr rr (by omega) bJ rr fun y d=>?_
 simp only [ah,ai,aq,ar] at d
 refine aa.fin i ?_;clear i
 refine ad fun _ k=>ag 2 1 ?_
 refine aP d 1 rr rr rr ba ?_
 refine aY (f':=fun q=>VU .u8 ((an (an a 0 ((a 0) &&& ~~~(7#8))) 31 ((((an a 0 ((a 0) &&& ~~~(7#8))) 31) &&& (127#8)) ||| (64#8))) q)) d 0 rr rr rr rr (fun _ _=>rr) bP rr fun z f=>?_
 simp only [ah,ai,aq,ar] at f
 refine aa.fin k ?_;clear k
 refine W.ret (aB ?_)
 have l:=St.aF (C:= [_,_]) f [] (by decide)
 simp only [pick,aL,aK,aM,aJ,ah,ai] at l
 subst r
 refine ax.mk (.agg f rr (.cons 0 rr .nil) ba .nil) ?_
 exact ⟨rr,l⟩
theorem uN {B:Nat} {w0:aC} {w:World} {L:List Rg} {d:Int} {f g h i:Nat→BitVec 64} {r:((Nat→BitVec 64)×(Nat→BitVec 64)×(Nat→BitVec 64)×(Nat→BitVec 64))} (a:l2 d f g h i r) (A:St B w0 (L) w):
  Calls Tryz.prog 107 #[.int .i64 d,AG [(5,fun q=>VU .u64 (f q)),(5,fun q=>VU .u64 (g q))],AG [(5,fun q=>VU .u64 (h q)),(5,fun q=>VU .u64 (i q))]] w fun e w'=>e= .returned (.tuple #[AG [(5,fun q=>VU .u64 (r.1 q)),(5,fun q=>VU .u64 (r.2.1 q))],AG [(5,fun q=>VU .u64 (r.2.2.1 q)),(5,fun q=>VU .u64 (r.2.2.2 q))]])∧St B w0 (L) w':=by
 refine W.enter 32 Tryz.func107 rr rr rr ?_
 unfold l2 at a
 refine ad fun _ j=>ag 4 0 ?_
 refine bp A rr rr ae.nil fun H I J k=>?_
 simp only [ao,Nat.zero_add,Nat.reduceAdd,ah,ai] at k
 refine bp k rr rr ae.nil fun K M N l=>?_
 simp only [ao,Nat.zero_add,Nat.reduceAdd,ah,ai] at l
 refine aa.alloc l rr hM ae.nil fun O P Q m=>?_
 simp only [ao,Nat.zero_add,Nat.reduceAdd,ah,ai] at m
 refine aa.alloc m rr hM ae.nil fun R S T b=>?_
 simp only [ao,Nat.zero_add,Nat.reduceAdd,ah,ai] at b
 refine aa.fin j ?_;clear j
 refine ad fun _ n=>ag 13 3039 ?_
 refine aj rr rr<|bm il rr rr<|aP b 6 rr rr rr bF<|bm il rr rr<|aP b 4 rr rr rr bF ?_
 obtain ⟨o,p,D,a⟩:=a
 refine aw w7 (ux D b) ?_
 rintro _ U ⟨rfl,E⟩
 refine ⟨_,rr,.inr ⟨rr,?_⟩⟩
 refine bK rr rr<|b5 rr rr rr<|b5 rr rr rr<|bm il rr rr ?_
 refine aY (f':=fun q=>VU .u64 (o q)) E 6 rr rr rr rr (fun _ _=>rr) cY rr fun V s=>?_
 simp only [ah,ai,aq,ar] at s
 refine bm il rr rr ?_
 refine aY (f':=fun q=>VU .u64 (p q)) s 4 rr rr rr rr (fun _ _=>rr) cY rr fun X c=>?_
 simp only [ah,ai,aq,ar] at c
 refine aa.fin n ?_;clear n
 refine ad fun _ t=>ag 13 3039 ?_
 refine aj rr rr<|aa.fieldAddr 5 hS rr rr<|aP c 7 rr rr rr bF<|aa.fieldAddr 5 hS rr rr<|aP c 5 rr rr rr bF ?_
 obtain ⟨u,v,F,a⟩:=a
 refine aw w7 (ux F c) ?_
 rintro _ Y ⟨rfl,G⟩
 refine ⟨_,rr,.inr ⟨rr,?_⟩⟩
 refine bK rr rr<|b5 rr rr rr<|b5 rr rr rr<|aa.fieldAddr 5 hS rr rr ?_
 refine aY (f':=fun q=>VU .u64 (u q)) G 7 rr rr rr rr (fun _ _=>rr) cY rr fun Z x=>?_
 simp only [ah,ai,aq,ar] at x
 refine aa.fieldAddr 5 hS rr rr ?_
 refine aY (f':=fun q=>VU .u64 (v q)) x 5 rr rr rr rr (fun _ _=>rr) cY rr fun am y=>?_
 simp only [ah,ai,aq,ar] at y
 refine aa.fin t ?_;clear t
 refine ad fun _ z=>?_
 refine bd a7 [1,3,4,6] ?_
 have h26:=y.drew
 refine bO h26 rr rr (.cons 6 rr (.cons 7 rr .nil)) fP<|bO h26 rr rr (.cons 4 rr (.cons 5 rr .nil)) fP ?_
 refine bA (ps:= [(5,fun q=>VU .u64 (o q)),(5,fun q=>VU .u64 (u q))]) h26 rr rr rr (.cons 2 rr (.cons 3 rr .nil)) ⟨fun _ _=>rr,fun _ _=>rr,trivial⟩ fQ (av.mix _ (aH.keep rr (aH.drop rr aH.nil)) (ae.parts (.cons 4 rr (.cons 5 rr .nil)) ae.nil)) fun ap h27=>?_
 simp only [ah,ai,aq,ar] at h27
 refine bA (ps:= [(5,fun q=>VU .u64 (p q)),(5,fun q=>VU .u64 (v q))]) h27 rr rr rr (.cons 0 rr (.cons 1 rr .nil)) ⟨fun _ _=>rr,fun _ _=>rr,trivial⟩ fQ (av.wait rr) fun a0 h28=>?_
 simp only [ah,ai,aq,ar] at h28
 refine aa.fin z ?_;clear z
 refine W.ret (aB ?_)
 have h29:=St.aF (C:= [_,_,_,_,_,_,_,_]) h28 [] (by decide)
 simp only [pick,aL,aK,aM,aJ,ah,ai] at h29
 subst r
 refine ax.mk (.agg h28 rr (.cons 2 rr (.cons 3 rr .nil)) fP (.agg h28 rr (.cons 0 rr (.cons 1 rr .nil)) fP .nil)) ?_
 exact ⟨rr,h29⟩
theorem z6 {B:Nat} {w0:aC} {w:World} {L:List Rg} {iG3:Nat} (h:gT L iG3 3 5 .u64 dn) {o p s t u:Nat→BitVec 64} {r:((Nat→BitVec 64)×(Nat→BitVec 64)×(Nat→BitVec 64)×(Nat→BitVec 64))} (a:oY o p s t u r) (d2:St B w0 (L) w):
  Calls Tryz.prog 108 #[AG [(5,fun q=>VU .u64 (o q))],AG [(5,fun q=>VU .u64 (p q)),(5,fun q=>VU .u64 (s q))],AG [(5,fun q=>VU .u64 (t q)),(5,fun q=>VU .u64 (u q))]] w fun e w'=>e= .returned (.tuple #[AG [(5,fun q=>VU .u64 (r.1 q)),(5,fun q=>VU .u64 (r.2.1 q))],AG [(5,fun q=>VU .u64 (r.2.2.1 q)),(5,fun q=>VU .u64 (r.2.2.2 q))]])∧St B w0 (L) w':=by
 refine W.enter 73 Tryz.func108 rr rr rr ?_
 unfold oY at a
 refine ad fun _ v=>ag 5 0 ?_
 refine bp d2 rr rr ae.nil fun g4 g5 g6 x=>?_
 simp only [ao,Nat.zero_add,Nat.reduceAdd,ah,ai] at x
 refine bp x rr rr ae.nil fun g7 g8 g9 y=>?_
 simp only [ao,Nat.zero_add,Nat.reduceAdd,ah,ai] at y
 refine bp y rr rr ae.nil fun he hi hk z=>?_
 simp only [ao,Nat.zero_add,Nat.reduceAdd,ah,ai] at z
 refine aa.alloc z rr hM ae.nil fun hm hu hw A=>?_
 simp only [ao,Nat.zero_add,Nat.reduceAdd,ah,ai] at A
 refine aa.alloc A rr hM ae.nil fun hH hO h1 D=>?_
 simp only [ao,Nat.zero_add,Nat.reduceAdd,ah,ai] at D
 refine aa.fin v ?_;clear v
 refine ad fun _ E=>?_
 refine fy (B:=B) (L:=L) a7 [⟨10,8,180,[(5,fun q=>VU .u64 ((fun _=>0#64) q))]⟩,⟨11,9,180,[(5,fun q=>VU .u64 ((fun _=>0#64) q))]⟩] (dg [1,3,5,7,11,13,15,17]) [(dg [8]),(dg [18])] (dg [24,26]) (by kernel_rfl) (by kernel_rfl) (.cons c6 (.cons c6 .nil)) ?_
 have d:=D.drew
 refine bm il rr rr<|aP d 6 rr rr rr bF<|aa.fieldAddr 5 hS rr rr<|aP d 7 rr rr rr bF<|bm il rr rr<|aP d 6 rr rr rr bF<|aa.fieldAddr 5 hS rr rr<|aP d 7 rr rr rr bF ?_
 refine aa.nil ⟨_,[_,_,_,_,_,_,_,_,_],d,(ae.cons 7 rr (ae.cons 6 rr (ae.cons 7 rr (ae.cons 6 rr ae.nil)))),?_⟩
 refine PX.step fun id ii io F=>?_
 simp only [ah,ai] at F
 obtain ⟨d3,d4,a⟩:=a
 refine dm pS (o8 d4 F) ?_
 rintro _ ip ⟨rfl,G⟩
 refine ⟨_,rr,_,_,_,_,G,(by exact (av.mix _ (aH.keep rr (aH.keep rr (aH.drop rr (aH.drop rr aH.nil)))) (ae.cons 7 rr (ae.cons 6 rr ae.nil)))),?_⟩
 refine aa.nil ⟨_,[_,_,_,_,_,_,_,_,_],G,(ae.cons 7 rr (ae.cons 6 rr ae.nil)),?_⟩
 refine PX.step fun H is it I=>?_
 simp only [ah,ai] at I
 obtain ⟨d5,d6,a⟩:=a
 refine aw qe (od (iG3:=(iG3+H.length)+9) (c_ h H) d6 I) ?_
 rintro _ i0 ⟨rfl,d7⟩
 refine ⟨_,rr,.inr ⟨rr,?_⟩⟩
 refine aa.nil ⟨_,[_,_,_,_,_,_,_,_,_],d7,ae.nil,?_⟩
 refine PX.done (KE.step fun i1=>(KE.step fun i2=>(KE.fin fun i3 J=>?_)))
 simp only [ao,Nat.zero_add,Nat.reduceAdd,ah,ai] at J
 refine aY (f':=fun q=>VU .u64 (d3 q)) J 9 rr rr rr rr (fun _ _=>rr) cY rr fun i4 K=>?_
 simp only [ah,ai,aq,ar] at K
 refine aY (f':=fun q=>VU .u64 (d5 q)) K 10 rr rr rr rr (fun _ _=>rr) cY rr fun i5 M=>?_
 simp only [ah,ai,aq,ar] at M
 refine aa.fin E ?_;clear E
 refine ad fun _ N=>?_
 refine fy (B:=B) (L:=L) a7 [⟨10,10,180,[(5,fun q=>VU .u64 ((fun _=>0#64) q))]⟩,⟨11,11,180,[(5,fun q=>VU .u64 ((fun _=>0#64) q))]⟩] (dg [1,3,5,7,11,13,15,17]) [(dg [8]),(dg [18])] (dg [24,26]) (by kernel_rfl) (by kernel_rfl) (.cons c6 (.cons c6 .nil)) ?_
 have h26:=M.drew
 refine bm il rr rr<|aP h26 4 rr rr rr bF<|aa.fieldAddr 5 hS rr rr<|aP h26 5 rr rr rr bF<|bm il rr rr<|aP h26 4 rr rr rr bF<|aa.fieldAddr 5 hS rr rr<|aP h26 5 rr rr rr bF ?_
 refine aa.nil ⟨_,[_,_,_,_,_,_,_,_,_,_,_],h26,(ae.cons 5 rr (ae.cons 4 rr (ae.cons 5 rr (ae.cons 4 rr ae.nil)))),?_⟩
 refine PX.step fun i6 i7 i8 h27=>?_
 simp only [ah,ai] at h27
 obtain ⟨d8,d9,a⟩:=a
 refine dm pS (o8 d9 h27) ?_
 rintro _ i9 ⟨rfl,h30⟩
 refine ⟨_,rr,_,_,_,_,h30,(by exact (av.mix _ (aH.keep rr (aH.keep rr (aH.drop rr (aH.drop rr aH.nil)))) (ae.cons 5 rr (ae.cons 4 rr ae.nil)))),?_⟩
 refine aa.nil ⟨_,[_,_,_,_,_,_,_,_,_,_,_],h30,(ae.cons 5 rr (ae.cons 4 rr ae.nil)),?_⟩
 refine PX.step fun O z31 jd P=>?_
 simp only [ah,ai] at P
 obtain ⟨el,em,a⟩:=a
 refine aw qe (od (iG3:=(iG3+O.length)+11) (c_ h O) em P) ?_
 rintro _ jp ⟨rfl,eq⟩
 refine ⟨_,rr,.inr ⟨rr,?_⟩⟩
 refine aa.nil ⟨_,[_,_,_,_,_,_,_,_,_,_,_],eq,ae.nil,?_⟩
 refine PX.done (KE.step fun kk=>(KE.step fun kw=>(KE.fin fun lc Q=>?_)))
 simp only [ao,Nat.zero_add,Nat.reduceAdd,ah,ai] at Q
 refine aY (f':=fun q=>VU .u64 (d8 q)) Q 11 rr rr rr rr (fun _ _=>rr) cY rr fun ld R=>?_
 simp only [ah,ai,aq,ar] at R
 refine aY (f':=fun q=>VU .u64 (el q)) R 12 rr rr rr rr (fun _ _=>rr) cY rr fun le S=>?_
 simp only [ah,ai,aq,ar] at S
 refine aa.fin N ?_;clear N
 refine ad fun _ T=>?_
 refine fy (B:=B) (L:=L) a7 [⟨6,12,180,[(5,fun q=>VU .u64 ((fun _=>0#64) q))]⟩,⟨7,13,180,[(5,fun q=>VU .u64 ((fun _=>0#64) q))]⟩] (dg [1,3,7,9]) [(dg [4]),(dg [10])] (dg [16,18]) (by kernel_rfl) (by kernel_rfl) (.cons c6 (.cons c6 .nil)) ?_
 have f:=S.drew
 refine aP f 12 rr rr rr bF<|aP f 9 rr rr rr bF<|aP f 11 rr rr rr bF<|aP f 10 rr rr rr bF ?_
 refine aa.nil ⟨_,[_,_,_,_,_,_,_,_,_,_,_,_,_],f,(ae.cons 10 rr (ae.cons 11 rr (ae.cons 9 rr (ae.cons 12 rr ae.nil)))),?_⟩
 refine PX.step fun li z40 lm U=>?_
 simp only [ah,ai] at U
 obtain ⟨es,ex,a⟩:=a
 refine dm ib (h7 ex U) ?_
 rintro _ lo ⟨rfl,V⟩
 refine ⟨_,rr,_,_,_,_,V,(by exact (av.mix _ (aH.keep rr (aH.keep rr (aH.drop rr (aH.drop rr aH.nil)))) (ae.cons 10 rr (ae.cons 11 rr ae.nil)))),?_⟩
 refine aa.nil ⟨_,[_,_,_,_,_,_,_,_,_,_,_,_,_],V,(ae.cons 10 rr (ae.cons 11 rr ae.nil)),?_⟩
 refine PX.step fun ls z44 lt X=>?_
 simp only [ah,ai] at X
 obtain ⟨fd,fn,a⟩:=a
 refine aw ib (h7 fn X) ?_
 rintro _ lw ⟨rfl,f0⟩
 refine ⟨_,rr,.inr ⟨rr,?_⟩⟩
 refine aa.nil ⟨_,[_,_,_,_,_,_,_,_,_,_,_,_,_],f0,ae.nil,?_⟩
 refine PX.done (KE.step fun md=>(KE.step fun mp=>(KE.fin fun ms Y=>?_)))
 simp only [ao,Nat.zero_add,Nat.reduceAdd,ah,ai] at Y
 refine aY (f':=fun q=>VU .u64 (es q)) Y 13 rr rr rr rr (fun _ _=>rr) cY rr fun mt Z=>?_
 simp only [ah,ai,aq,ar] at Z
 refine aY (f':=fun q=>VU .u64 (fd q)) Z 14 rr rr rr rr (fun _ _=>rr) cY rr fun m0 am=>?_
 simp only [ah,ai,aq,ar] at am
 refine aa.fin T ?_;clear T
 refine ad fun _ ap=>?_
 refine bd a7 [1,3,9,11,13,4,6,14,16,18,21,22] ?_
 have c:=am.drew
 refine aP c 13 rr rr rr bF<|aP c 14 rr rr rr bF<|aP c 8 rr rr rr bF<|aP c 13 rr rr rr bF<|aP c 14 rr rr rr bF ?_
 obtain ⟨m1,f1,a⟩:=a
 refine dm pS (o8 f1 c) ?_
 rintro _ m2 ⟨rfl,a0⟩
 refine ⟨_,rr,_,_,_,_,a0,(by exact (av.mix _ (aH.keep rr (aH.keep rr (aH.keep rr (aH.drop rr (aH.drop rr aH.nil))))) (ae.cons 14 rr (ae.cons 13 rr (ae.cons 8 rr ae.nil))))),?_⟩
 obtain ⟨g,f2,a⟩:=a
 refine aw lK (lC f2 a0) ?_
 rintro _ m3 ⟨rfl,a2⟩
 refine ⟨_,rr,.inl ⟨ae.keep (by exact (ae.cons 14 rr (ae.cons 13 rr (ae.cons 8 rr ae.nil)))) a2,?_⟩⟩
 obtain ⟨m4,f3,a⟩:=a
 refine dm qe (od (iG3:=iG3+15) h f3 a2) ?_
 rintro _ m5 ⟨rfl,a3⟩
 refine ⟨_,rr,_,_,_,_,a3,(by exact (av.mix _ (aH.drop rr (aH.drop rr (aH.keep rr aH.nil))) (ae.cons 8 rr ae.nil))),?_⟩
 obtain ⟨m6,f4,a⟩:=a
 refine aw lK (lC f4 a3) ?_
 rintro _ ec ⟨rfl,a4⟩
 refine ⟨_,rr,.inl ⟨ae.keep (by exact (ae.cons 8 rr ae.nil)) a4,?_⟩⟩
 obtain ⟨i,f5,a⟩:=a
 refine aw ib (h7 f5 a4) ?_
 rintro _ m7 ⟨rfl,f6⟩
 refine ⟨_,rr,.inr ⟨rr,?_⟩⟩
 refine dt (ps:= [(5,fun q=>VU .u64 (g q)),(5,fun q=>VU .u64 (i q))]) oz (by decide) hM rr rr (.agg [] [(5,fun q=>VU .u64 ((fun _=>0#64) q))] [(5,fun q=>VU .u64 ((fun _=>0#64) q))] [(5,fun q=>VU .u64 (g q))] rr rr (.agg [(5,fun q=>VU .u64 (g q))] [(5,fun q=>VU .u64 ((fun _=>0#64) q))] [] [(5,fun q=>VU .u64 (i q))] rr rr .nil)) ?_
 refine bA (ps:= [(5,fun q=>VU .u64 (g q)),(5,fun q=>VU .u64 (i q))]) f6 rr rr rr (.cons 4 rr (.cons 5 rr .nil)) ⟨fun _ _=>rr,fun _ _=>rr,trivial⟩ fQ (av.keep ae.nil) fun m8 a5=>?_
 simp only [ah,ai,aq,ar] at a5
 refine aa.fin ap ?_;clear ap
 refine ad fun _ a9=>?_
 refine fy (B:=B) (L:=L) a7 [⟨4,14,180,[(5,fun q=>VU .u64 ((fun _=>0#64) q))]⟩,⟨5,15,180,[(5,fun q=>VU .u64 ((fun _=>0#64) q))]⟩] (dg [1,5]) [(dg [2]),(dg [6])] (dg [12,14]) (by kernel_rfl) (by kernel_rfl) (.cons c6 (.cons c6 .nil)) ?_
 have m:=a5.drew
 refine aP m 9 rr rr rr bF<|aP m 10 rr rr rr bF ?_
 refine aa.nil ⟨_,[_,_,_,_,_,_,_,_,_,_,_,_,_,_,_],m,(ae.cons 10 rr (ae.cons 9 rr ae.nil)),?_⟩
 refine PX.step fun m9 m' ne be=>?_
 simp only [ah,ai] at be
 obtain ⟨f7,f8,a⟩:=a
 refine dm lK (lC f8 be) ?_
 rintro _ nl ⟨rfl,bi⟩
 refine ⟨_,rr,_,_,_,_,bi,(by exact (av.mix _ (aH.keep rr (aH.drop rr aH.nil)) (ae.cons 10 rr ae.nil))),?_⟩
 refine aa.nil ⟨_,[_,_,_,_,_,_,_,_,_,_,_,_,_,_,_],bi,(ae.cons 10 rr ae.nil),?_⟩
 refine PX.step fun no z75 n5 bv=>?_
 simp only [ah,ai] at bv
 obtain ⟨f9,gc,a⟩:=a
 refine aw lK (lC gc bv) ?_
 rintro _ n6 ⟨rfl,gd⟩
 refine ⟨_,rr,.inr ⟨rr,?_⟩⟩
 refine aa.nil ⟨_,[_,_,_,_,_,_,_,_,_,_,_,_,_,_,_],gd,ae.nil,?_⟩
 refine PX.done (KE.step fun n7=>(KE.step fun n8=>(KE.fin fun ok cc=>?_)))
 simp only [ao,Nat.zero_add,Nat.reduceAdd,ah,ai] at cc
 refine aY (f':=fun q=>VU .u64 (f7 q)) cc 15 rr rr rr rr (fun _ _=>rr) cY rr fun ol cd=>?_
 simp only [ah,ai,aq,ar] at cd
 refine aY (f':=fun q=>VU .u64 (f9 q)) cd 16 rr rr rr rr (fun _ _=>rr) cY rr fun on j=>?_
 simp only [ah,ai,aq,ar] at j
 refine aa.fin a9 ?_;clear a9
 refine ad fun _ ce=>ag 5 3 ?_
 refine aP j 15 rr rr rr bF<|aP j 16 rr rr rr bF ?_
 obtain ⟨ge,go,a⟩:=a
 refine aw qe (od (iG3:=iG3+17) h go j) ?_
 rintro _ op ⟨rfl,gs⟩
 refine ⟨_,rr,.inr ⟨rr,?_⟩⟩
 refine aa.alloc gs rr c6 ae.nil fun or os o' ci=>?_
 simp only [ao,Nat.zero_add,Nat.reduceAdd,ah,ai] at ci
 refine aY (f':=fun q=>VU .u64 (ge q)) ci 0 rr rr rr rr (fun _ _=>rr) cY rr fun pi cl=>?_
 simp only [ah,ai,aq,ar] at cl
 refine aa.fin ce ?_;clear ce
 refine ad fun _ co=>?_
 refine bd a7 [1,3,7,9,13,23,4,10,14,16,18,21,24,26] ?_
 have b:=cl.drew
 refine aP b 16 rr rr rr bF<|aP b 17 rr rr rr bF<|aP b 0 rr rr rr bF<|aP b 16 rr rr rr bF<|aP b 0 rr rr rr bF<|bO b rr rr (.cons 5 rr (.cons 6 rr .nil)) fP ?_
 obtain ⟨k,gt,a⟩:=a
 refine dm ib (h7 gt b) ?_
 rintro _ pl ⟨rfl,cs⟩
 refine ⟨_,rr,_,_,_,_,cs,(by exact (av.mix _ (aH.keep rr (aH.keep rr (aH.keep rr (aH.keep rr (aH.drop rr (aH.drop rr aH.nil)))))) (ae.parts (.cons 5 rr (.cons 6 rr .nil)) (ae.cons 0 rr (ae.cons 16 rr (ae.cons 0 rr ae.nil)))))),?_⟩
 obtain ⟨pm,g0,a⟩:=a
 refine aw rR (rp g0 cs) ?_
 rintro _ pp ⟨rfl,c1⟩
 refine ⟨_,rr,.inl ⟨ae.keep (by exact (ae.parts (.cons 5 rr (.cons 6 rr .nil)) (ae.cons 0 rr (ae.cons 16 rr (ae.cons 0 rr ae.nil))))) c1,?_⟩⟩
 obtain ⟨pu,g1,a⟩:=a
 refine dm ib (h7 g1 c1) ?_
 rintro _ qr ⟨rfl,c2⟩
 refine ⟨_,rr,_,_,_,_,c2,(by exact (av.mix _ (aH.keep rr (aH.drop rr (aH.keep rr (aH.keep rr aH.nil)))) (ae.parts (.cons 5 rr (.cons 6 rr .nil)) (ae.cons 16 rr (ae.cons 0 rr ae.nil))))),?_⟩
 obtain ⟨rc,g2,a⟩:=a
 refine dm pS (o8 g2 c2) ?_
 rintro _ rd ⟨rfl,dl⟩
 refine ⟨_,rr,_,_,_,_,dl,(by exact (av.mix _ (aH.keep rr (aH.drop rr (aH.keep rr aH.nil))) (ae.parts (.cons 5 rr (.cons 6 rr .nil)) (ae.cons 0 rr ae.nil)))),?_⟩
 obtain ⟨n,g3,a⟩:=a
 refine dm ib (h7 g3 dl) ?_
 rintro _ rg ⟨rfl,ds⟩
 refine ⟨_,rr,_,_,_,_,ds,(by exact (av.mix _ (aH.keep rr (aH.drop rr aH.nil)) (ae.parts (.cons 5 rr (.cons 6 rr .nil)) ae.nil))),?_⟩
 refine dt (ps:= [(5,fun q=>VU .u64 (k q)),(5,fun q=>VU .u64 (n q))]) oz (by decide) hM rr rr (.agg [] [(5,fun q=>VU .u64 ((fun _=>0#64) q))] [(5,fun q=>VU .u64 ((fun _=>0#64) q))] [(5,fun q=>VU .u64 (k q))] rr rr (.agg [(5,fun q=>VU .u64 (k q))] [(5,fun q=>VU .u64 ((fun _=>0#64) q))] [] [(5,fun q=>VU .u64 (n q))] rr rr .nil)) ?_
 refine bA (ps:= [(5,fun q=>VU .u64 (k q)),(5,fun q=>VU .u64 (n q))]) ds rr rr rr (.cons 3 rr (.cons 4 rr .nil)) ⟨fun _ _=>rr,fun _ _=>rr,trivial⟩ fQ (av.keep (ae.parts (.cons 5 rr (.cons 6 rr .nil)) ae.nil)) fun ro d0=>?_
 simp only [ah,ai,aq,ar] at d0
 refine bA (ps:= [(5,fun q=>VU .u64 (g q)),(5,fun q=>VU .u64 (i q))]) d0 rr rr rr (.cons 1 rr (.cons 2 rr .nil)) ⟨fun _ _=>rr,fun _ _=>rr,trivial⟩ fQ (av.wait rr) fun rs l=>?_
 simp only [ah,ai,aq,ar] at l
 refine aa.fin co ?_;clear co
 refine W.ret (aB ?_)
 have d1:=St.aF (C:= [_,_,_,_,_,_,_,_,_,_,_,_,_,_,_,_,_,_]) l [] (by decide)
 simp only [pick,aL,aK,aM,aJ,ah,ai] at d1
 subst r
 refine ax.mk (.agg l rr (.cons 3 rr (.cons 4 rr .nil)) fP (.agg l rr (.cons 1 rr (.cons 2 rr .nil)) fP .nil)) ?_
 exact ⟨rr,d1⟩
theorem tU {B:Nat} {w0:aC} {w:World} {L:List Rg} {iG3:Nat} (dl:gT L iG3 3 5 .u64 dn) {H I r:K8} (d:kq H I r) (ds:St B w0 (L) w):
  Calls Tryz.prog 77 #[AG [p8 32 H],AG [p8 32 I]] w fun e w'=>e= .returned (AG [p8 32 r])∧St B w0 (L) w':=by
 refine W.enter 68 Tryz.func77 rr rr rr ?_
 unfold kq at d
 refine ad fun _ J=>ag 3 0 ?_
 refine bp ds rr rr ae.nil fun hu hw hH K=>?_
 simp only [ao,Nat.zero_add,Nat.reduceAdd,ah,ai] at K
 refine bp K rr rr ae.nil fun hO h1 id M=>?_
 simp only [ao,Nat.zero_add,Nat.reduceAdd,ah,ai] at M
 refine aa.alloc M rr c4 ae.nil fun s ii io u=>?_
 simp only [ao,Nat.zero_add,Nat.reduceAdd,ah,ai] at u
 refine aa.fin J ?_;clear J
 refine ad fun _ N=>ag 4 1 ?_
 refine aP u 2 rr rr rr ba ?_
 obtain ⟨h,d0,d⟩:=d
 refine aw uX (yC d0 u) ?_
 rintro _ ip ⟨rfl,d1⟩
 refine ⟨_,rr,.inr ⟨rr,?_⟩⟩
 refine aa.alloc d1 rr c4 ae.nil fun O is it P=>?_
 simp only [ao,Nat.zero_add,Nat.reduceAdd,ah,ai] at P
 refine aY (f':=fun q=>VU .u8 (h q)) P 0 rr rr rr rr (fun _ _=>rr) bP rr fun i0 v=>?_
 simp only [ah,ai,aq,ar] at v
 refine aa.fin N ?_;clear N
 refine ad fun _ Q=>ag 4 1 ?_
 refine aP v 2 rr rr rr ba ?_
 obtain ⟨i,d2,d⟩:=d
 refine aw BC (E9 d2 v) ?_
 rintro _ i1 ⟨rfl,d3⟩
 refine ⟨_,rr,.inr ⟨rr,?_⟩⟩
 refine aa.alloc d3 rr c6 ae.nil fun R i2 i3 S=>?_
 simp only [ao,Nat.zero_add,Nat.reduceAdd,ah,ai] at S
 refine aY (f':=fun q=>VU .u64 (i q)) S 0 rr rr rr rr (fun _ _=>rr) cY rr fun i4 T=>?_
 simp only [ah,ai,aq,ar] at T
 refine aa.fin Q ?_;clear Q
 refine ad fun _ U=>ag 3 0 ?_
 obtain ⟨g,d4,d⟩:=d
 refine aw rR (rp d4 T) ?_
 rintro _ i5 ⟨rfl,V⟩
 refine ⟨_,rr,.inl ⟨ae.keep (by exact ae.nil) V,?_⟩⟩
 refine aa.alloc V rr c6 ae.nil fun i6 i7 i8 Y=>?_
 simp only [ao,Nat.zero_add,Nat.reduceAdd,ah,ai] at Y
 refine aY (f':=fun q=>VU .u64 (g q)) Y 0 rr rr rr rr (fun _ _=>rr) cY rr fun i9 Z=>?_
 simp only [ah,ai,aq,ar] at Z
 refine aa.fin U ?_;clear U
 refine ad fun _ am=>?_
 refine fy (B:=B) (L:=L) a7 [⟨6,8,184,[(5,fun q=>VU .u64 ((fun _=>0#64) q)),(5,fun q=>VU .u64 ((fun _=>0#64) q))]⟩,⟨7,9,184,[(5,fun q=>VU .u64 ((fun _=>0#64) q)),(5,fun q=>VU .u64 ((fun _=>0#64) q))]⟩] (dg [1,3,5,7,9,11]) [] (dg [16,18]) (by kernel_rfl) (by kernel_rfl) (.cons hM (.cons hM .nil)) ?_
 have h26:=Z.drew
 refine aP h26 0 rr rr rr bF<|fY Ew c6 rr ?_
 refine dt (ps:= [(5,fun q=>VU .u64 (g q)),(5,fun q=>VU .u64 ((fun _=>0#64) q))]) oz (by decide) hM rr rr (.agg [] [(5,fun q=>VU .u64 ((fun _=>0#64) q))] [(5,fun q=>VU .u64 ((fun _=>0#64) q))] [(5,fun q=>VU .u64 (g q))] rr rr (.agg [(5,fun q=>VU .u64 (g q))] [(5,fun q=>VU .u64 ((fun _=>0#64) q))] [] [(5,fun q=>VU .u64 ((fun _=>0#64) q))] rr rr .nil)) ?_
 refine aP h26 1 rr rr rr bF<|aP h26 0 rr rr rr bF ?_
 refine dt (ps:= [(5,fun q=>VU .u64 (i q)),(5,fun q=>VU .u64 (g q))]) oz (by decide) hM rr rr (.agg [] [(5,fun q=>VU .u64 ((fun _=>0#64) q))] [(5,fun q=>VU .u64 ((fun _=>0#64) q))] [(5,fun q=>VU .u64 (i q))] rr rr (.agg [(5,fun q=>VU .u64 (i q))] [(5,fun q=>VU .u64 ((fun _=>0#64) q))] [] [(5,fun q=>VU .u64 (g q))] rr rr .nil)) ?_
 refine aa.nil ⟨_,[_,_,_,_,_,_],h26,(ae.cons 0 rr (ae.cons 1 rr (ae.cons 0 rr ae.nil))),?_⟩
 refine PX.done (KE.step fun k=>(KE.step fun l=>(KE.fin fun jd h27=>?_)))
 simp only [ao,Nat.zero_add,Nat.reduceAdd,ah,ai] at h27
 refine bA (ps:= [(5,fun q=>VU .u64 (g q)),(5,fun q=>VU .u64 ((fun _=>0#64) q))]) h27 rr rr rr (.cons 6 rr (.cons 7 rr .nil)) ⟨fun _ _=>rr,fun _ _=>rr,trivial⟩ fQ (av.mix _ (aH.keep rr (aH.keep rr (aH.drop rr aH.nil))) (ae.cons 0 rr (ae.cons 1 rr ae.nil))) fun jp h28=>?_
 simp only [ah,ai,aq,ar] at h28
 refine bA (ps:= [(5,fun q=>VU .u64 (i q)),(5,fun q=>VU .u64 (g q))]) h28 rr rr rr (.cons 8 rr (.cons 9 rr .nil)) ⟨fun _ _=>rr,fun _ _=>rr,trivial⟩ fQ (av.wait rr) fun kk h29=>?_
 simp only [ah,ai,aq,ar] at h29
 refine aa.fin am ?_;clear am
 refine ad fun _ ap=>ag 1 1 ?_
 refine ak rr rr<|aa.fin ap ?_;clear ap
 refine ad fun _ a0=>ad fun _ a2=>?_
 refine ag 1 1 ?_
 refine ak rr rr<|aa.fin a2 ?_;clear a2
 obtain ⟨d5,d6,d7,d8,d9,el,em⟩:=d
 refine bq (fun e w=>∃x:Nat,∃y z A D:Nat→BitVec 64,(d5,d6,d7,d8,d9)=(x,y,z,A,D)∧aU e [(4,pt s 0),(8,pt k 0),(9,pt l 0),(10,VN x)]∧St B w0 (g8 s 0 32 (fun _=>0#8)::⟨some k,0,5,fun q=>VU .u64 (y q),true⟩::⟨some k,5,5,fun q=>VU .u64 (z q),true⟩::⟨some l,0,5,fun q=>VU .u64 (A q),true⟩::⟨some l,5,5,fun q=>VU .u64 (D q),true⟩::L) w) ?_ ?_
 ·
  refine W.block ?_
  refine bS el (fun (m:(Nat×Int×(Nat→BitVec 64)×(Nat→BitVec 64)×(Nat→BitVec 64)×(Nat→BitVec 64))) e w=>aU e [(4,pt s 0),(5,pt O 0),(6,pt R 0),(8,pt k 0),(9,pt l 0),(10,VN m.1),(11,.int .i64 m.2.1)]∧St B w0 (⟨some R,0,5,fun q=>VU .u64 (i q),true⟩::g8 O 0 32 h::g8 s 0 32 (fun _=>0#8)::⟨some k,0,5,fun q=>VU .u64 (m.2.2.1 q),true⟩::⟨some k,5,5,fun q=>VU .u64 (m.2.2.2.1 q),true⟩::⟨some l,0,5,fun q=>VU .u64 (m.2.2.2.2.1 q),true⟩::⟨some l,5,5,fun q=>VU .u64 (m.2.2.2.2.2 q),true⟩::L) w) ⟨(ab (ab (ab (ab (ab (ab (ab au))))))),bt 10 [1,2,3,6,7,8,9] h29⟩ ?_
  rintro ⟨a3,f,eq,es,ex,fd⟩ kw d fn f0 lc ⟨f1,n⟩
  obtain ⟨f0,rfl⟩:=f1.open
  unfold nB at d
  refine ad fun _ a4=>ad fun _ a5=>?_
  refine ag 2 3 ?_
  refine aj rr rr<|aR (a:=(f:Int)) (b:=(0:Int)) (p:=0≤f) rr rr rr rr mo<|aa.fin a5 ?_;clear a5
  by_cases t:0≤f
  ·
   replace d:=aA d t
   refine aG (congrArg Value.bool (decide_eq_true t)) ?_
   refine W.skip ?_
   refine a4 _ _ ?_;clear a4
   refine ad fun _ a9=>?_
   refine W.block ?_
   refine ad fun _ be=>ag 10 1023 ?_
   refine aj rr rr ?_
   obtain ⟨f2,d⟩:=d
   refine lp (a:=f) (b:=8) rr rr rr (by omega) f2 ?_
   obtain ⟨f3,d⟩:=d
   refine a1 (j:=(f.tdiv 8).toNat) c' rr rr (congrArg (Value.int .i64) (Int.toNat_of_nonneg f3.1).symm) (by omega)<|bk (j:=(f.tdiv 8).toNat) n 1 rr rr rr (by omega) bZ<|aj rr rr ?_
   have ld:=jw f (c:=8) (by decide)
   refine iP (a:=f) (b:=8) rr rr rr (by omega) ?_
   obtain ⟨f4,d⟩:=d
   refine cJ .u8 (X:=(h ((f.tdiv 8).toNat))) (c:=(f.tmod 8).toNat) rr rr (congrArg (Value.int .i64) (Int.toNat_of_nonneg f4).symm)<|h8 (a:=((h ((f.tdiv 8).toNat)) >>> ((f.tmod 8).toNat)).toNat) gX jl rr rr (Nat.lt_of_lt_of_le ((h ((f.tdiv 8).toNat)) >>> ((f.tmod 8).toNat)).isLt (by decide))<|z7 (a:=((h ((f.tdiv 8).toNat)) >>> ((f.tmod 8).toNat)).toNat) (b:=1) rr rr rr (by omega)<|ak rr rr<|aa.fin be ?_;clear be
   refine ad fun _ bi=>ag 11 479 ?_
   refine aj rr rr<|aj rr rr ?_
   obtain ⟨le,d⟩:=d
   refine aa.fU (a:=((((h ((f.tdiv 8).toNat)) >>> ((f.tmod 8).toNat)).toNat) &&& 1)) (b:=a3) rr rr rr (by omega)<|bO n rr rr (.cons 3 rr (.cons 4 rr .nil)) fP<|bO n rr rr (.cons 5 rr (.cons 6 rr .nil)) fP ?_
   obtain ⟨f5,f6,f7,f8,f9,d⟩:=d
   refine aw yd (uN f9 n) ?_
   rintro _ li ⟨rfl,gc⟩
   refine ⟨_,rr,.inr ⟨rr,?_⟩⟩
   refine bK rr rr<|b5 rr rr rr<|b5 rr rr rr ?_
   refine bA (ps:= [(5,fun q=>VU .u64 (f5 q)),(5,fun q=>VU .u64 (f6 q))]) gc rr rr rr (.cons 3 rr (.cons 4 rr .nil)) ⟨fun _ _=>rr,fun _ _=>rr,trivial⟩ fQ (av.keep ae.nil) fun lm bv=>?_
   simp only [ah,ai,aq,ar] at bv
   refine bA (ps:= [(5,fun q=>VU .u64 (f7 q)),(5,fun q=>VU .u64 (f8 q))]) bv rr rr rr (.cons 5 rr (.cons 6 rr .nil)) ⟨fun _ _=>rr,fun _ _=>rr,trivial⟩ fQ (av.keep ae.nil) fun lo o=>?_
   simp only [ah,ai,aq,ar] at o
   refine aa.fin bi ?_;clear bi
   refine ad fun _ cc=>ag 9 119 ?_
   refine aP o 0 rr rr rr bF<|bO o rr rr (.cons 3 rr (.cons 4 rr .nil)) fP<|bO o rr rr (.cons 5 rr (.cons 6 rr .nil)) fP ?_
   obtain ⟨gd,ge,go,gs,gt,d⟩:=d
   refine aw E_ (z6 (iG3:=iG3+7) dl gt o) ?_
   rintro _ ls ⟨rfl,g0⟩
   refine ⟨_,rr,.inr ⟨rr,?_⟩⟩
   refine bK rr rr<|b5 rr rr rr<|b5 rr rr rr ?_
   refine bA (ps:= [(5,fun q=>VU .u64 (gd q)),(5,fun q=>VU .u64 (ge q))]) g0 rr rr rr (.cons 3 rr (.cons 4 rr .nil)) ⟨fun _ _=>rr,fun _ _=>rr,trivial⟩ fQ (av.keep ae.nil) fun lt cd=>?_
   simp only [ah,ai,aq,ar] at cd
   refine bA (ps:= [(5,fun q=>VU .u64 (go q)),(5,fun q=>VU .u64 (gs q))]) cd rr rr rr (.cons 5 rr (.cons 6 rr .nil)) ⟨fun _ _=>rr,fun _ _=>rr,trivial⟩ fQ (av.keep ae.nil) fun lw ce=>?_
   simp only [ah,ai,aq,ar] at ce
   refine aa.fin cc ?_;clear cc
   refine ag 2 3 ?_
   refine aj rr rr<|ak rr rr<|aa.nil ?_
   refine bo ?_
   refine a9 _ _ ?_;clear a9
   refine ag 3 7 ?_
   refine aj rr rr ?_
   obtain ⟨md,d⟩:=d
   refine d' (a:=f) (b:=1) rr rr rr (by omega)<|ak rr rr<|aa.nil ?_
   exact bG ⟨_,d,(ab (ab (ab (ab (ab (ab (ab au))))))),ce⟩
  ·
   replace d:=az d t
   refine aO (congrArg Value.bool (decide_eq_false t)) ?_
   refine W.exit (bM (bU (bL ?_)))
   exact ⟨a3,eq,es,ex,fd,(fn _ d).symm,(ab (ab (ab (ab au)))),bt 7 [2,3,4,5,6] n⟩
 ·
  rintro g1 mp ⟨x,y,z,A,D,g2,g3,E⟩
  obtain ⟨g1,rfl⟩:=g3.open
  cases g2
  replace d:=em
  refine a0 _ _ ?_;clear a0
  refine ad fun _ ci=>ag 8 119 ?_
  refine aj rr rr<|bO E rr rr (.cons 1 rr (.cons 2 rr .nil)) fP<|bO E rr rr (.cons 3 rr (.cons 4 rr .nil)) fP ?_
  obtain ⟨g4,g5,ms,mt,g6,d⟩:=d
  refine aw yd (uN g6 E) ?_
  rintro _ m0 ⟨rfl,g7⟩
  refine ⟨_,rr,.inr ⟨rr,?_⟩⟩
  refine bK rr rr<|b5 rr rr rr<|b5 rr rr rr ?_
  refine bA (ps:= [(5,fun q=>VU .u64 (g4 q)),(5,fun q=>VU .u64 (g5 q))]) g7 rr rr rr (.cons 1 rr (.cons 2 rr .nil)) ⟨fun _ _=>rr,fun _ _=>rr,trivial⟩ fQ (av.keep ae.nil) fun m1 cl=>?_
  simp only [ah,ai,aq,ar] at cl
  refine aa.fin ci ?_;clear ci
  refine ad fun _ co=>?_
  refine bd a7 [1,3,5,6,8,10,12,14] ?_
  have F:=cl.drew
  refine bm il rr rr<|aP F 1 rr rr rr bF<|aa.fieldAddr 5 hS rr rr<|nT<|aP F 2 rr rr rr bF<|aa.nil ?_
  obtain ⟨m2,g9,d⟩:=d
  refine aw AN (zx g9 F) ?_
  rintro _ m3 ⟨rfl,cs⟩
  refine ⟨_,rr,.inl ⟨ae.keep (by exact (ae.cons 1 rr ae.nil)) cs,?_⟩⟩
  obtain ⟨m4,he,d⟩:=d
  refine aw ib (h7 he cs) ?_
  rintro _ m5 ⟨rfl,hi⟩
  refine ⟨_,rr,.inr ⟨rr,?_⟩⟩
  obtain ⟨hk,hm,d⟩:=d
  refine aw zq (BE hm hi) ?_
  rintro _ m6 ⟨rfl,c1⟩
  refine ⟨_,rr,.inl ⟨ae.keep (by exact ae.nil) c1,?_⟩⟩
  refine aY (f':=fun q=>VU .u8 (hk q)) c1 0 rr rr rr rr (fun _ _=>rr) bP rr fun m7 G=>?_
  simp only [ah,ai,aq,ar] at G
  refine aa.fin co ?_;clear co
  refine W.ret (aB ?_)
  have c2:=St.aF (C:= [_,_,_,_,_]) G [] (by decide)
  simp only [pick,aL,aK,aM,aJ,ah,ai] at c2
  subst r
  refine ax.mk (.agg G rr (.cons 0 rr .nil) ba .nil) ?_
  exact ⟨rr,c2⟩
theorem zV {B:Nat} {w0:aC} {w:World} {L:List Rg} {iG3:Nat} (i:gT L iG3 3 5 .u64 dn) {d r:K8} (a:nR d r) (j:St B w0 (L) w):
  Calls Tryz.prog 57 #[AG [p8 32 d]] w fun e w'=>e= .returned (AG [p8 32 r])∧St B w0 (L) w':=by
 refine W.enter 6 Tryz.func57 rr rr rr ?_
 unfold nR at a
 refine ad fun _ f=>ag 2 0 ?_
 refine bp j rr rr ae.nil fun n o p h3=>?_
 simp only [ao,Nat.zero_add,Nat.reduceAdd,ah,ai] at h3
 refine aa.alloc h3 rr c4 ae.nil fun s t u b=>?_
 simp only [ao,Nat.zero_add,Nat.reduceAdd,ah,ai] at b
 refine aa.fin f ?_;clear f
 refine ad fun _ g=>ag 4 3 ?_
 refine aP b 1 rr rr rr ba ?_
 refine gu (ps:= [p8 32 (an (fun _=>0#8) 0 (9#8))]) c' c4 rr rr (by kernel_rfl) ?_
 obtain ⟨k,l,a⟩:=a
 refine aw v7 (tU (iG3:=iG3+2) i l b) ?_
 rintro _ v ⟨rfl,m⟩
 refine ⟨_,rr,.inr ⟨rr,?_⟩⟩
 refine aY (f':=fun q=>VU .u8 (k q)) m 0 rr rr rr rr (fun _ _=>rr) bP rr fun x c=>?_
 simp only [ah,ai,aq,ar] at c
 refine aa.fin g ?_;clear g
 refine W.ret (aB ?_)
 have h:=St.aF (C:= [_,_]) c [] (by decide)
 simp only [pick,aL,aK,aM,aJ,ah,ai] at h
 subst r
 refine ax.mk (.agg c rr (.cons 0 rr .nil) ba .nil) ?_
 exact ⟨rr,h⟩
theorem yW {B:Nat} {w0:aC} {w:World} {L:List Rg} {iG3:Nat} (G:gT L iG3 3 5 .u64 dn) {d:List af} {m:Option Addr} {n o H:Nat} (h:Bx L H m n o d) {r:(K8×K8×Nat)} (c:k' d r) (I:St B w0 (L) w):
  Calls Tryz.prog 31 #[.slice m n o] w fun e w'=>e= .returned (.tuple #[AG [p8 32 r.1,p8 32 r.2.1],VN r.2.2])∧St B w0 (L) w':=by
 refine W.enter 17 Tryz.func31 rr rr rr ?_
 unfold k' at c
 have J:=h.hl;subst J
 refine ad fun _ s=>ag 2 2 ?_
 refine aa.alloc I rr iY ae.nil fun O P Q h3=>?_
 simp only [ao,Nat.zero_add,Nat.reduceAdd,ah,ai] at h3
 refine ak rr rr<|aa.fin s ?_;clear s
 refine ad fun _ t=>ad fun _ u=>?_
 refine ag 3 7 ?_
 refine aE rr rr<|aa.len cB rr rr<|aR (a:=(((d.length:Nat):Int):Int)) (b:=(32:Int)) (p:=d.length≠32) rr rr rr rr cm<|aa.fin u ?_;clear u
 by_cases g:d.length≠32
 ·
  replace c:=aA c g
  refine aG (congrArg Value.bool (decide_eq_true g)) ?_
  refine ad fun _ v=>ag 3 5 ?_
  refine fY Dc iY rr ?_
  refine bA (ps:= [p8 32 (fun _=>0#8),p8 32 (fun _=>0#8)]) h3 rr rr rr (.cons 0 rr (.cons 1 rr .nil)) ⟨fun _ _=>rr,fun _ _=>rr,trivial⟩ iA (av.keep ae.nil) fun R i=>?_
  simp only [ah,ai,aq,ar] at i
  refine ak rr rr<|aa.fin v ?_;clear v
  refine W.ret (a' (aB ?_))
  have x:=St.aF (C:= [_,_]) i [] (by decide)
  simp only [pick,aL,aK,aM,aJ,ah,ai] at x
  subst r
  refine ax.mk (.agg i rr (.cons 0 rr (.cons 1 rr .nil)) iV (.bj rr .nil)) ?_
  exact ⟨rr,x⟩
 ·
  replace c:=az c g
  refine aO (congrArg Value.bool (decide_eq_false g)) ?_
  refine W.skip ?_
  refine t _ _ ?_;clear t
  refine ad fun _ y=>ag 6 7 ?_
  refine aE rr rr ?_
  obtain ⟨S,c⟩:=c
  refine sW h3 (h.app [_,_]) D6 rr rr (by omega) ?_
  refine sZ h3 (h.app [_,_]) rr rr (by omega) ba fun T U=>?_
  obtain ⟨f,K,c⟩:=c
  refine aw uX (yC K h3) ?_
  rintro _ V ⟨rfl,M⟩
  refine ⟨_,rr,.inr ⟨rr,?_⟩⟩
  refine aa.alloc M rr c4 ae.nil fun X Y Z z=>?_
  simp only [ao,Nat.zero_add,Nat.reduceAdd,ah,ai] at z
  refine aY (f':=fun q=>VU .u8 (f q)) z 0 rr rr rr rr (fun _ _=>rr) bP rr fun am A=>?_
  simp only [ah,ai,aq,ar] at A
  refine aa.fin y ?_;clear y
  refine ad fun _ D=>?_
  refine bd a7 [1,3,4,7,8,11] ?_
  have j:=A.drew
  refine aP j 0 rr rr rr ba<|aP j 0 rr rr rr ba ?_
  obtain ⟨k,N,c⟩:=c
  refine dm DA (zV (iG3:=iG3+3) G N j) ?_
  rintro _ ap ⟨rfl,E⟩
  refine ⟨_,rr,_,_,_,_,E,(by exact (av.mix _ (aH.drop rr (aH.keep rr aH.nil)) (ae.cons 0 rr ae.nil))),?_⟩
  refine dt (ps:= [p8 32 f,p8 32 k]) FM (by decide) iY rr rr (.agg [] [p8 32 (fun _=>0#8)] [p8 32 (fun _=>0#8)] [p8 32 f] rr rr (.agg [p8 32 f] [p8 32 (fun _=>0#8)] [] [p8 32 k] rr rr .nil)) ?_
  refine bA (ps:= [p8 32 f,p8 32 k]) E rr rr rr (.cons 1 rr (.cons 2 rr .nil)) ⟨fun _ _=>rr,fun _ _=>rr,trivial⟩ iA (av.wait rr) fun a0 l=>?_
  simp only [ah,ai,aq,ar] at l
  refine ak rr rr<|aa.fin D ?_;clear D
  refine W.ret (aB ?_)
  have F:=St.aF (C:= [_,_,_]) l [] (by decide)
  simp only [pick,aL,aK,aM,aJ,ah,ai] at F
  subst r
  refine ax.mk (.agg l rr (.cons 1 rr (.cons 2 rr .nil)) iV (.bj rr .nil)) ?_
  exact ⟨rr,F⟩
theorem r7 {B:Nat} {w0:aC} {w:World} {L:List Rg} {iG3:Nat} (z:gT L iG3 3 5 .u64 dn) {j k:K8} {r:(K8×Nat)} (a:fH j k r) (A:St B w0 (L) w):
  Calls Tryz.prog 41 #[AG [p8 32 j],AG [p8 32 k]] w fun e w'=>e= .returned (.tuple #[AG [p8 32 r.1],VN r.2])∧St B w0 (L) w':=by
 refine W.enter 15 Tryz.func41 rr rr rr ?_
 unfold fH at a
 refine ad fun _ l=>ag 4 8 ?_
 refine bp A rr rr ae.nil fun F G H m=>?_
 simp only [ao,Nat.zero_add,Nat.reduceAdd,ah,ai] at m
 refine bp m rr rr ae.nil fun I J K n=>?_
 simp only [ao,Nat.zero_add,Nat.reduceAdd,ah,ai] at n
 refine aa.alloc n rr c4 ae.nil fun M N O f=>?_
 simp only [ao,Nat.zero_add,Nat.reduceAdd,ah,ai] at f
 refine ak rr rr<|aa.fin l ?_;clear l
 refine ad fun _ o=>ag 5 3 ?_
 refine aP f 2 rr rr rr ba<|aP f 1 rr rr rr ba ?_
 obtain ⟨d,D,a⟩:=a
 refine aw v7 (tU (iG3:=iG3+3) z D f) ?_
 rintro _ P ⟨rfl,E⟩
 refine ⟨_,rr,.inr ⟨rr,?_⟩⟩
 refine aa.alloc E rr c4 ae.nil fun Q R S p=>?_
 simp only [ao,Nat.zero_add,Nat.reduceAdd,ah,ai] at p
 refine aY (f':=fun q=>VU .u8 (d q)) p 0 rr rr rr rr (fun _ _=>rr) bP rr fun T c=>?_
 simp only [ah,ai,aq,ar] at c
 refine aa.fin o ?_;clear o
 refine ad fun _ s=>ad fun _ t=>?_
 refine ag 3 7 ?_
 refine aP c 0 rr rr rr ba<|fY Ft c4 rr ?_
 refine AM (b:=(c9 32 d (fun _=>0#8))) xY rr rr rr rr ?_
 refine aa.fin t ?_;clear t
 by_cases g:(c9 32 d (fun _=>0#8))=true
 ·
  replace a:=aA a g
  refine aG (congrArg Value.bool g) ?_
  refine ad fun _ u=>ag 3 5 ?_
  refine aP c 0 rr rr rr ba ?_
  refine aY (f':=fun q=>VU .u8 (d q)) c 1 rr rr rr rr (fun _ _=>rr) bP rr fun U h=>?_
  simp only [ah,ai,aq,ar] at h
  refine ak rr rr<|aa.fin u ?_;clear u
  refine W.ret (a' (aB ?_))
  have v:=St.aF (C:= [_,_,_,_]) h [] (by decide)
  simp only [pick,aL,aK,aM,aJ,ah,ai] at v
  subst r
  refine ax.mk (.agg h rr (.cons 1 rr .nil) ba (.bj rr .nil)) ?_
  exact ⟨rr,v⟩
 ·
  replace a:=az a g
  refine aO (congrArg Value.bool (Bool.eq_false_iff.2 g)) ?_
  refine W.skip ?_
  refine s _ _ ?_;clear s
  refine ad fun _ x=>ag 3 5 ?_
  refine aP c 0 rr rr rr ba ?_
  refine aY (f':=fun q=>VU .u8 (d q)) c 1 rr rr rr rr (fun _ _=>rr) bP rr fun V i=>?_
  simp only [ah,ai,aq,ar] at i
  refine ak rr rr<|aa.fin x ?_;clear x
  refine W.ret (aB ?_)
  have y:=St.aF (C:= [_,_,_,_]) i [] (by decide)
  simp only [pick,aL,aK,aM,aJ,ah,ai] at y
  subst r
  refine ax.mk (.agg i rr (.cons 1 rr .nil) ba (.bj rr .nil)) ?_
  exact ⟨rr,y⟩
end Go.Proofs.YtjclppnbbpnfnaaGreatDoor
