/-
 WALKS of the package's functions, printed by this session's own program (auto.py).
-/
import Derived.Test.YtjclppnbbpnfnaaGreatDoorWF
import Derived.Test.YtjclppnbbpnfnaaGreatDoorProg
import Derived.Test.YtjclppnbbpnfnaaGreatDoorEd
import Derived.Test.YtjclppnbbpnfnaaGreatDoorRField
import Derived.Test.YtjclppnbbpnfnaaGreatDoorEls
import Derived.Test.YtjclppnbbpnfnaaGreatDoorWBits
namespace Go.Proofs.YtjclppnbbpnfnaaGreatDoor
set_option linter.unusedSimpArgs false
set_option linter.unusedVariables false
set_option linter.unusedSectionVars false
set_option maxRecDepth 8000
set_option maxHeartbeats 1000000
open Go Go.LW
theorem l7 {B:Nat} {w0:aC} {w:World} {L:List Rg} {h:K8} {g:Int} {r:(BitVec 64)} (d:iT h g r) (C:St B w0 (L) w):
  Calls Tryz.prog 139 #[AG [p8 32 h],.int .i64 g] w fun e w'=>e= .returned (VU .u64 r)∧St B w0 (L) w':=by
 refine W.enter 21 Tryz.func139 rr rr rr ?_
 unfold iT at d
 refine ad fun _ n=>ag 2 2 ?_
 refine bp C rr rr ae.nil fun o P Q q=>?_
 simp only [ao,Nat.zero_add,Nat.reduceAdd,ah,ai] at q
 refine ak rr rr<|aa.fin n ?_;clear n
 refine ad fun _ s=>ag 1 1 ?_
 refine ak rr rr<|aa.fin s ?_;clear s
 refine ad fun _ t=>ad fun _ u=>?_
 refine ag 1 1 ?_
 refine ak rr rr<|aa.fin u ?_;clear u
 obtain ⟨D,E,F⟩:=d
 refine bq (fun e w=>∃k:BitVec 64,D=k∧aU e [(5,VU .u64 k)]∧St B w0 (L) w) ?_ ?_
 ·
  refine W.block ?_
  refine bS E (fun (v:((BitVec 64)×Int)) e w=>aU e [(1,.int .i64 g),(2,pt o 0),(5,VU .u64 v.1),(6,.int .i64 v.2)]∧St B w0 (g8 o 0 32 h::L) w) ⟨(ab (ab (ab (ab au)))),q⟩ ?_
  rintro ⟨l,f⟩ R d G H S ⟨I,m⟩
  obtain ⟨H,rfl⟩:=I.open
  unfold o0 at d
  refine ad fun _ x=>ad fun _ y=>?_
  refine ag 2 3 ?_
  refine aj rr rr<|aR (a:=(f:Int)) (b:=(0:Int)) (p:=0≤f) rr rr rr rr mo<|aa.fin y ?_;clear y
  by_cases i:0≤f
  ·
   replace d:=aA d i
   refine aG (congrArg Value.bool (decide_eq_true i)) ?_
   refine W.skip ?_
   refine x _ _ ?_;clear x
   refine ad fun _ z=>?_
   refine W.block ?_
   refine ag 10 1023 ?_
   refine aj rr rr<|hE .u64 (X:=l) (c:=8) rr rr rr<|aj rr rr<|aj rr rr ?_
   obtain ⟨T,d⟩:=d
   refine iF (a:=g) (b:=f) rr rr rr (by omega) ?_
   obtain ⟨J,d⟩:=d
   refine a1 (j:=(g+f).toNat) c' rr rr (congrArg (Value.int .i64) (Int.toNat_of_nonneg J.1).symm) (by omega)<|bk (j:=(g+f).toNat) m 0 rr rr rr (by omega) bZ<|dU .u64 (X:=(h ((g+f).toNat))) lD jl rr rr<|gI .u64 (X:=(l <<< 8)) (Y:=((h ((g+f).toNat)).setWidth 64)) rr rr rr<|ak rr rr<|aa.nil ?_
   refine bo ?_
   refine z _ _ ?_;clear z
   refine ag 3 7 ?_
   refine aj rr rr ?_
   obtain ⟨U,d⟩:=d
   refine d' (a:=f) (b:=1) rr rr rr (by omega)<|ak rr rr<|aa.nil ?_
   exact bG ⟨_,d,(ab (ab (ab (ab au)))),m⟩
  ·
   replace d:=az d i
   refine aO (congrArg Value.bool (decide_eq_false i)) ?_
   refine W.exit (bM (bU (bL ?_)))
   exact ⟨l,(G _ d).symm,(ab au),bt 1 [] m⟩
 ·
  rintro K V ⟨k,M,N,O⟩
  obtain ⟨K,rfl⟩:=N.open
  subst M
  replace d:=F
  refine t _ _ ?_;clear t
  refine ad fun _ A=>ag 2 3 ?_
  refine aj rr rr<|ak rr rr<|aa.fin A ?_;clear A
  refine W.ret (aB ?_)
  subst r
  refine ax.mk (.bj rr .nil) ?_
  exact ⟨rr,O⟩
theorem E9 {B:Nat} {w0:aC} {w:World} {L:List Rg} {k:K8} {r:(Nat→BitVec 64)} (a:oA k r) (v:St B w0 (L) w):
  Calls Tryz.prog 105 #[AG [p8 32 k]] w fun e w'=>e= .returned (AG [(5,fun q=>VU .u64 (r q))])∧St B w0 (L) w':=by
 refine W.enter 24 Tryz.func105 rr rr rr ?_
 unfold oA at a
 refine ad fun _ l=>ag 2 0 ?_
 refine bp v rr rr ae.nil fun F G H h3=>?_
 simp only [ao,Nat.zero_add,Nat.reduceAdd,ah,ai] at h3
 refine aa.alloc h3 rr c6 ae.nil fun I J K m=>?_
 simp only [ao,Nat.zero_add,Nat.reduceAdd,ah,ai] at m
 refine aa.fin l ?_;clear l
 refine ad fun _ n=>?_
 refine bd a7 [1,7,15,23,31,2,5,8,11,13,16,19,21,24,27,29,32,35,37,39,41,42] ?_
 have b:=m.drew
 refine aP b 1 rr rr rr ba<|aP b 1 rr rr rr ba<|aP b 1 rr rr rr ba<|aP b 1 rr rr rr ba<|aP b 1 rr rr rr ba ?_
 obtain ⟨i,x,a⟩:=a
 refine dm nf (l7 x b) ?_
 rintro _ M ⟨rfl,o⟩
 refine ⟨_,rr,_,_,_,_,o,(by exact (av.mix _ (aH.keep rr (aH.keep rr (aH.keep rr (aH.keep rr (aH.drop rr aH.nil))))) (ae.cons 1 rr (ae.cons 1 rr (ae.cons 1 rr (ae.cons 1 rr ae.nil)))))),?_⟩
 refine dx .u64 (X:=i) (Y:=2251799813685247#64) rr rr rr ?_
 obtain ⟨d,y,a⟩:=a
 refine dm nf (l7 y o) ?_
 rintro _ N ⟨rfl,p⟩
 refine ⟨_,rr,_,_,_,_,p,(by exact (av.mix _ (aH.keep rr (aH.keep rr (aH.keep rr (aH.drop rr aH.nil)))) (ae.cons 1 rr (ae.cons 1 rr (ae.cons 1 rr ae.nil))))),?_⟩
 refine cJ .u64 (X:=d) (c:=3) rr rr rr<|dx .u64 (X:=(d >>> 3)) (Y:=2251799813685247#64) rr rr rr ?_
 obtain ⟨f,z,a⟩:=a
 refine dm nf (l7 z p) ?_
 rintro _ O ⟨rfl,s⟩
 refine ⟨_,rr,_,_,_,_,s,(by exact (av.mix _ (aH.keep rr (aH.keep rr (aH.drop rr aH.nil))) (ae.cons 1 rr (ae.cons 1 rr ae.nil)))),?_⟩
 refine cJ .u64 (X:=f) (c:=6) rr rr rr<|dx .u64 (X:=(f >>> 6)) (Y:=2251799813685247#64) rr rr rr ?_
 obtain ⟨g,A,a⟩:=a
 refine dm nf (l7 A s) ?_
 rintro _ P ⟨rfl,t⟩
 refine ⟨_,rr,_,_,_,_,t,(by exact (av.mix _ (aH.keep rr (aH.drop rr aH.nil)) (ae.cons 1 rr ae.nil))),?_⟩
 refine cJ .u64 (X:=g) (c:=1) rr rr rr<|dx .u64 (X:=(g >>> 1)) (Y:=2251799813685247#64) rr rr rr ?_
 obtain ⟨h,D,a⟩:=a
 refine aw nf (l7 D t) ?_
 rintro _ Q ⟨rfl,E⟩
 refine ⟨_,rr,.inr ⟨rr,?_⟩⟩
 refine cJ .u64 (X:=h) (c:=12) rr rr rr<|dx .u64 (X:=(h >>> 12)) (Y:=2251799813685247#64) rr rr rr ?_
 refine gu (ps:= [(5,fun q=>VU .u64 ((lit [(i &&& (2251799813685247#64)),((d >>> 3) &&& (2251799813685247#64)),((f >>> 6) &&& (2251799813685247#64)),((g >>> 1) &&& (2251799813685247#64)),((h >>> 12) &&& (2251799813685247#64))]) q))]) cP mU rr rr rr ?_
 refine dt (ps:= [(5,fun q=>VU .u64 ((lit [(i &&& (2251799813685247#64)),((d >>> 3) &&& (2251799813685247#64)),((f >>> 6) &&& (2251799813685247#64)),((g >>> 1) &&& (2251799813685247#64)),((h >>> 12) &&& (2251799813685247#64))]) q))]) lP (by decide) c6 rr rr (.agg [] [(5,fun q=>VU .u64 ((fun _=>0#64) q))] [] [(5,fun q=>VU .u64 ((lit [(i &&& (2251799813685247#64)),((d >>> 3) &&& (2251799813685247#64)),((f >>> 6) &&& (2251799813685247#64)),((g >>> 1) &&& (2251799813685247#64)),((h >>> 12) &&& (2251799813685247#64))]) q))] rr rr .nil) ?_
 refine aY (f':=fun q=>VU .u64 ((lit [(i &&& (2251799813685247#64)),((d >>> 3) &&& (2251799813685247#64)),((f >>> 6) &&& (2251799813685247#64)),((g >>> 1) &&& (2251799813685247#64)),((h >>> 12) &&& (2251799813685247#64))]) q)) E 0 rr rr rr rr (fun _ _=>rr) cY rr fun R j=>?_
 simp only [ah,ai,aq,ar] at j
 refine aa.fin n ?_;clear n
 refine W.ret (aB ?_)
 have u:=St.aF (C:= [_,_]) j [] (by decide)
 simp only [pick,aL,aK,aM,aJ,ah,ai] at u
 subst r
 refine ax.mk (.agg j rr (.cons 0 rr .nil) bF .nil) ?_
 exact ⟨rr,u⟩
theorem rp {B:Nat} {w0:aC} {w:World} {L:List Rg} {a:U4} {r:(Nat→BitVec 64)} (g:k7 a r) (h:St B w0 (L) w):
  Calls Tryz.prog 106 #[VU .u32 a] w fun e w'=>e= .returned (AG [(5,fun q=>VU .u64 (r q))])∧St B w0 (L) w':=by
 refine W.enter 7 Tryz.func106 rr rr rr ?_
 unfold k7 at g
 refine ad fun _ c=>ag 1 0 ?_
 refine aa.alloc h rr c6 ae.nil fun i j k h3=>?_
 simp only [ao,Nat.zero_add,Nat.reduceAdd,ah,ai] at h3
 refine aa.fin c ?_;clear c
 refine ad fun _ d=>ag 5 15 ?_
 refine aj rr rr<|dU .u64 (X:=a) lD eP rr rr ?_
 refine gu (ps:= [(5,fun q=>VU .u64 ((an (fun _=>0#64) 0 (a.setWidth 64)) q))]) cP mU rr rr rr ?_
 refine dt (ps:= [(5,fun q=>VU .u64 ((an (fun _=>0#64) 0 (a.setWidth 64)) q))]) lP (by decide) c6 rr rr (.agg [] [(5,fun q=>VU .u64 ((fun _=>0#64) q))] [] [(5,fun q=>VU .u64 ((an (fun _=>0#64) 0 (a.setWidth 64)) q))] rr rr .nil) ?_
 refine aY (f':=fun q=>VU .u64 ((an (fun _=>0#64) 0 (a.setWidth 64)) q)) h3 0 rr rr rr rr (fun _ _=>rr) cY rr fun l b=>?_
 simp only [ah,ai,aq,ar] at b
 refine aa.fin d ?_;clear d
 refine W.ret (aB ?_)
 have f:=St.aF (C:= [_]) b [] (by decide)
 simp only [pick,aL,aK,aM,aJ,ah,ai] at f
 subst r
 refine ax.mk (.agg b rr (.cons 0 rr .nil) bF .nil) ?_
 exact ⟨rr,f⟩
theorem ux {B:Nat} {w0:aC} {w:World} {L:List Rg} {c:Int} {f g:Nat→BitVec 64} {r:((Nat→BitVec 64)×(Nat→BitVec 64))} (d:jg c f g r) (F:St B w0 (L) w):
  Calls Tryz.prog 140 #[.int .i64 c,AG [(5,fun q=>VU .u64 (f q))],AG [(5,fun q=>VU .u64 (g q))]] w fun e w'=>e= .returned (.tuple #[AG [(5,fun q=>VU .u64 (r.1 q))],AG [(5,fun q=>VU .u64 (r.2 q))]])∧St B w0 (L) w':=by
 refine W.enter 15 Tryz.func140 rr rr rr ?_
 unfold jg at d
 refine ad fun _ n=>ag 4 0 ?_
 refine bp F rr rr ae.nil fun G H I o=>?_
 simp only [ao,Nat.zero_add,Nat.reduceAdd,ah,ai] at o
 refine bp o rr rr ae.nil fun J K M s=>?_
 simp only [ao,Nat.zero_add,Nat.reduceAdd,ah,ai] at s
 refine aa.alloc s rr c6 ae.nil fun N O P t=>?_
 simp only [ao,Nat.zero_add,Nat.reduceAdd,ah,ai] at t
 refine aa.alloc t rr c6 ae.nil fun Q R S k=>?_
 simp only [ao,Nat.zero_add,Nat.reduceAdd,ah,ai] at k
 refine aa.fin n ?_;clear n
 refine ad fun _ u=>ad fun _ v=>?_
 refine ag 3 7 ?_
 refine aj rr rr<|Cm (a:=c) 1 (by decide) rr rr rr<|aR (a:=((c % 2):Int)) (b:=(1:Int)) (p:=(c % 2)=1) rr rr rr rr j3<|aa.fin v ?_;clear v
 by_cases h:(c % 2)=1
 ·
  replace d:=aA d h
  refine aG (congrArg Value.bool (decide_eq_true h)) ?_
  refine ad fun _ x=>?_
  refine bd a7 [1,3,4,6] ?_
  have l:=k.drew
  refine aP l 2 rr rr rr bF<|aP l 3 rr rr rr bF ?_
  refine bA (ps:= [(5,fun q=>VU .u64 (g q))]) l rr rr rr (.cons 1 rr .nil) ⟨fun _ _=>rr,trivial⟩ cY (av.mix _ (aH.keep rr (aH.drop rr aH.nil)) (ae.cons 3 rr ae.nil)) fun T y=>?_
  simp only [ah,ai,aq,ar] at y
  refine aY (f':=fun q=>VU .u64 (f q)) y 0 rr rr rr rr (fun _ _=>rr) cY rr fun U i=>?_
  simp only [ah,ai,aq,ar] at i
  refine aa.fin x ?_;clear x
  refine W.ret (a' (aB ?_))
  have z:=St.aF (C:= [_,_,_,_]) i [] (by decide)
  simp only [pick,aL,aK,aM,aJ,ah,ai] at z
  subst r
  refine ax.mk (.agg i rr (.cons 1 rr .nil) bF (.agg i rr (.cons 0 rr .nil) bF .nil)) ?_
  exact ⟨rr,z⟩
 ·
  replace d:=az d h
  refine aO (congrArg Value.bool (decide_eq_false h)) ?_
  refine W.skip ?_
  refine u _ _ ?_;clear u
  refine ad fun _ A=>?_
  refine bd a7 [1,3,4,6] ?_
  have m:=k.drew
  refine aP m 3 rr rr rr bF<|aP m 2 rr rr rr bF ?_
  refine bA (ps:= [(5,fun q=>VU .u64 (f q))]) m rr rr rr (.cons 1 rr .nil) ⟨fun _ _=>rr,trivial⟩ cY (av.mix _ (aH.keep rr (aH.drop rr aH.nil)) (ae.cons 2 rr ae.nil)) fun V D=>?_
  simp only [ah,ai,aq,ar] at D
  refine aY (f':=fun q=>VU .u64 (g q)) D 0 rr rr rr rr (fun _ _=>rr) cY rr fun X j=>?_
  simp only [ah,ai,aq,ar] at j
  refine aa.fin A ?_;clear A
  refine W.ret (aB ?_)
  have E:=St.aF (C:= [_,_,_,_]) j [] (by decide)
  simp only [pick,aL,aK,aM,aJ,ah,ai] at E
  subst r
  refine ax.mk (.agg j rr (.cons 1 rr .nil) bF (.agg j rr (.cons 0 rr .nil) bF .nil)) ?_
  exact ⟨rr,E⟩
theorem lO {B:Nat} {w0:aC} {w:World} {L:List Rg} {x:Nat→BitVec 64} {r:(Nat→BitVec 64)} (d:iC x r) (R:St B w0 (L) w):
  Calls Tryz.prog 146 #[AG [(5,fun q=>VU .u64 (x q))]] w fun e w'=>e= .returned (AG [(5,fun q=>VU .u64 (r q))])∧St B w0 (L) w':=by
 refine W.enter 31 Tryz.func146 rr rr rr ?_
 unfold iC at d
 refine ad fun _ y=>ag 2 0 ?_
 refine bp R rr rr ae.nil fun i a2 a3 h3=>?_
 simp only [ao,Nat.zero_add,Nat.reduceAdd,ah,ai] at h3
 refine aa.alloc h3 rr mU ae.nil fun k a4 a5 z=>?_
 simp only [ao,Nat.zero_add,Nat.reduceAdd,ah,ai] at z
 refine aa.fin y ?_;clear y
 refine ad fun _ A=>ag 1 1 ?_
 refine ak rr rr<|aa.fin A ?_;clear A
 refine ad fun _ D=>ad fun _ E=>?_
 refine ag 1 1 ?_
 refine aj rr rr<|aa.fin E ?_;clear E
 obtain ⟨h,m32,S,T⟩:=d
 refine bq (fun e w=>∃n:BitVec 64,∃o:Nat→BitVec 64,(h,m32)=(n,o)∧aU e [(1,pt i 0),(2,pt k 0),(3,VU .u64 n)]∧St B w0 (⟨some k,0,5,fun q=>VU .u64 ((fun _=>0#64) q),true⟩::⟨some i,0,5,fun q=>VU .u64 (o q),true⟩::L) w) ?_ ?_
 ·
  refine W.block ?_
  refine bS S (fun (s:((BitVec 64)×Nat×(Nat→BitVec 64))) e w=>aU e [(1,pt i 0),(2,pt k 0),(3,VU .u64 s.1),(5,VN s.2.1)]∧St B w0 (⟨some k,0,5,fun q=>VU .u64 ((fun _=>0#64) q),true⟩::⟨some i,0,5,fun q=>VU .u64 (s.2.2 q),true⟩::L) w) ⟨(ab (ab (ab (ab au)))),z⟩ ?_
  rintro ⟨g,t29,f⟩ a9 d U V be ⟨Z,t⟩
  obtain ⟨V,rfl⟩:=Z.open
  unfold pH at d
  refine ad fun _ F=>ag 1 1 ?_
  refine aR (a:=(((t29:Nat):Int):Int)) (b:=(5:Int)) (p:=t29 < 5) rr rr rr rr bW<|aa.fin F ?_;clear F
  refine ad fun _ G=>?_
  by_cases l:t29 < 5
  ·
   replace d:=aA d l
   refine aG (congrArg Value.bool (decide_eq_true l)) ?_
   refine W.skip ?_
   refine G _ _ ?_;clear G
   refine ad fun _ H=>?_
   refine W.block ?_
   refine ad fun _ I=>ag 2 3 ?_
   refine aj rr rr<|ak rr rr<|aa.fin I ?_;clear I
   refine ad fun _ J=>ag 7 63 ?_
   refine aj rr rr<|a1 (j:=t29) cP rr rr rr (by omega)<|bk (j:=t29) t 1 rr rr rr (by omega) dv<|aj rr rr<|cD .u64 (X:=(f t29)) (Y:=g) rr rr rr<|a1 (j:=t29) cP rr rr rr (by omega) ?_
   refine cr (j:=t29) (X:=((f t29)+g)) t 1 rr rr rr rr (by omega) fN rr fun bi m=>?_
   simp only [ah,ai,aq,ar] at m
   refine aa.fin J ?_;clear J
   refine ad fun _ K=>ag 5 31 ?_
   refine aj rr rr<|a1 (j:=t29) cP rr rr rr (by omega)<|bk (j:=t29) m 1 rr rr rr (by omega) dv<|cJ .u64 (X:=((an f t29 ((f t29)+g)) t29)) (c:=51) rr rr rr<|ak rr rr<|aa.fin K ?_;clear K
   refine ag 6 31 ?_
   refine aj rr rr<|a1 (j:=t29) cP rr rr rr (by omega)<|bk (j:=t29) m 1 rr rr rr (by omega) dv<|dx .u64 (X:=((an f t29 ((f t29)+g)) t29)) (Y:=2251799813685247#64) rr rr rr<|a1 (j:=t29) cP rr rr rr (by omega) ?_
   refine cr (j:=t29) (X:=(((an f t29 ((f t29)+g)) t29) &&& (2251799813685247#64))) m 1 rr rr rr rr (by omega) fN rr fun bv M=>?_
   simp only [ah,ai,aq,ar] at M
   refine aa.nil ?_
   refine bo ?_
   refine H _ _ ?_;clear H
   refine ag 2 3 ?_
   refine bu (a:=t29) (b:=1) rr rr rr (by omega)<|aj rr rr<|aa.nil ?_
   exact bG ⟨_,d,(ab (ab (ab (ab au)))),M⟩
  ·
   replace d:=az d l
   refine aO (congrArg Value.bool (decide_eq_false l)) ?_
   refine W.exit (bM (bU (bL ?_)))
   exact ⟨g,f,(U _ d).symm,(ab (ab (ab au))),t⟩
 ·
  rintro am cc ⟨n,o,ap,a0,N⟩
  obtain ⟨am,rfl⟩:=a0.open
  cases ap
  replace d:=T
  refine D _ _ ?_;clear D
  refine ad fun _ O=>ag 7 63 ?_
  refine a1 (j:=0) cP rr rr rr (by omega)<|bk (j:=0) N 1 rr rr rr (by omega) dv<|aj rr rr<|gH .u64 (X:=19#64) (Y:=h) rr rr rr<|cD .u64 (X:=(m32 0)) (Y:=((19#64)*h)) rr rr rr<|a1 (j:=0) cP rr rr rr (by omega) ?_
  refine cr (j:=0) (X:=((m32 0)+((19#64)*h))) N 1 rr rr rr rr (by omega) fN rr fun cd u=>?_
  simp only [ah,ai,aq,ar] at u
  refine aa.fin O ?_;clear O
  refine ad fun _ P=>ag 2 1 ?_
  refine aP u 1 rr rr rr kM ?_
  refine aY (f':=fun q=>VU .u64 ((an m32 0 ((m32 0)+((19#64)*h))) q)) u 0 rr rr rr rr (fun _ _=>rr) wo rr fun ce v=>?_
  simp only [ah,ai,aq,ar] at v
  refine aa.fin P ?_;clear P
  refine W.ret (aB ?_)
  have Q:=St.aF (C:= [_,_]) v [] (by decide)
  simp only [pick,aL,aK,aM,aJ,ah,ai] at Q
  subst r
  refine ax.mk (.agg v rr (.cons 0 rr .nil) kM .nil) ?_
  exact ⟨rr,Q⟩
theorem o8 {B:Nat} {w0:aC} {w:World} {L:List Rg} {o d:Nat→BitVec 64} {r:(Nat→BitVec 64)} (c:jV o d r) (M:St B w0 (L) w):
  Calls Tryz.prog 141 #[AG [(5,fun q=>VU .u64 (o q))],AG [(5,fun q=>VU .u64 (d q))]] w fun e w'=>e= .returned (AG [(5,fun q=>VU .u64 (r q))])∧St B w0 (L) w':=by
 refine W.enter 25 Tryz.func141 rr rr rr ?_
 unfold jV at c
 refine ad fun _ s=>ag 3 0 ?_
 refine bp M rr rr ae.nil fun f ap a0 t=>?_
 simp only [ao,Nat.zero_add,Nat.reduceAdd,ah,ai] at t
 refine bp t rr rr ae.nil fun u a2 a3 v=>?_
 simp only [ao,Nat.zero_add,Nat.reduceAdd,ah,ai] at v
 refine aa.alloc v rr c6 ae.nil fun g a4 a5 x=>?_
 simp only [ao,Nat.zero_add,Nat.reduceAdd,ah,ai] at x
 refine aa.fin s ?_;clear s
 refine ad fun _ y=>ad fun _ z=>?_
 refine ag 1 1 ?_
 refine aj rr rr<|aa.fin z ?_;clear z
 obtain ⟨N,O,P⟩:=c
 refine bq (fun e w=>∃i:Nat→BitVec 64,N=i∧aU e [(2,pt f 0),(4,pt g 0)]∧St B w0 (⟨some g,0,5,fun q=>VU .u64 ((fun _=>0#64) q),true⟩::⟨some f,0,5,fun q=>VU .u64 (i q),true⟩::L) w) ?_ ?_
 ·
  refine W.block ?_
  refine bS O (fun (A:(Nat×(Nat→BitVec 64))) e w=>aU e [(2,pt f 0),(3,pt u 0),(4,pt g 0),(6,VN A.1)]∧St B w0 (⟨some g,0,5,fun q=>VU .u64 ((fun _=>0#64) q),true⟩::⟨some u,0,5,fun q=>VU .u64 (d q),true⟩::⟨some f,0,5,fun q=>VU .u64 (A.2 q),true⟩::L) w) ⟨(ab (ab (ab (ab au)))),x⟩ ?_
  rintro ⟨t24,k⟩ a9 c Q R be ⟨S,h28⟩
  obtain ⟨R,rfl⟩:=S.open
  unfold mH at c
  refine ad fun _ D=>ag 1 1 ?_
  refine aR (a:=(((t24:Nat):Int):Int)) (b:=(5:Int)) (p:=t24 < 5) rr rr rr rr bW<|aa.fin D ?_;clear D
  refine ad fun _ E=>?_
  by_cases h:t24 < 5
  ·
   replace c:=aA c h
   refine aG (congrArg Value.bool (decide_eq_true h)) ?_
   refine W.skip ?_
   refine E _ _ ?_;clear E
   refine ad fun _ F=>?_
   refine W.block ?_
   refine ad fun _ G=>ag 2 3 ?_
   refine aj rr rr<|ak rr rr<|aa.fin G ?_;clear G
   refine bd a7 [1,3,5,7,9,11,13,15,17,19,21,22] ?_
   have l:=h28.drew
   refine aj rr rr<|bm gy rr rr<|a1 (j:=t24) cP rr rr rr (by omega)<|bk (j:=t24) l 2 rr rr rr (by omega) dv<|aj rr rr<|bm gy rr rr<|a1 (j:=t24) cP rr rr rr (by omega)<|bk (j:=t24) l 1 rr rr rr (by omega) dv ?_
   refine cD .u64 (X:=(k t24)) (Y:=(d t24)) rr rr rr<|bm gy rr rr<|a1 (j:=t24) cP rr rr rr (by omega) ?_
   refine cr (j:=t24) (X:=((k t24)+(d t24))) l 2 rr rr rr rr (by omega) fN rr fun bi H=>?_
   simp only [ah,ai,aq,ar] at H
   refine aa.nil ?_
   refine bo ?_
   refine F _ _ ?_;clear F
   refine ag 2 3 ?_
   refine bu (a:=t24) (b:=1) rr rr rr (by omega)<|aj rr rr<|aa.nil ?_
   exact bG ⟨_,c,(ab (ab (ab (ab au)))),H⟩
  ·
   replace c:=az c h
   refine aO (congrArg Value.bool (decide_eq_false h)) ?_
   refine W.exit (bM (bU (bL ?_)))
   exact ⟨k,(Q _ c).symm,(ab (ab au)),bt 3 [0,2] h28⟩
 ·
  rintro T bv ⟨i,U,V,I⟩
  obtain ⟨T,rfl⟩:=V.open
  subst U
  replace c:=P
  refine y _ _ ?_;clear y
  refine ad fun _ J=>ag 5 11 ?_
  refine bm gy rr rr<|aP I 1 rr rr rr kM ?_
  obtain ⟨m,Z,c⟩:=c
  refine aw me (lO Z I) ?_
  rintro _ cc ⟨rfl,am⟩
  refine ⟨_,rr,.inr ⟨rr,?_⟩⟩
  refine dt (ps:= [(5,fun q=>VU .u64 (m q))]) lP (by decide) c6 rr rr (.agg [] [(5,fun q=>VU .u64 ((fun _=>0#64) q))] [] [(5,fun q=>VU .u64 (m q))] rr rr .nil) ?_
  refine aY (f':=fun q=>VU .u64 (m q)) am 0 rr rr rr rr (fun _ _=>rr) cY rr fun cd n=>?_
  simp only [ah,ai,aq,ar] at n
  refine aa.fin J ?_;clear J
  refine W.ret (aB ?_)
  have K:=St.aF (C:= [_,_]) n [] (by decide)
  simp only [pick,aL,aK,aM,aJ,ah,ai] at K
  subst r
  refine ax.mk (.agg n rr (.cons 0 rr .nil) bF .nil) ?_
  exact ⟨rr,K⟩
theorem od {B:Nat} {w0:aC} {w:World} {L:List Rg} {iG3:Nat} (M:gT L iG3 3 5 .u64 dn) {o d:Nat→BitVec 64} {r:(Nat→BitVec 64)} (c:jX o d r) (N:St B w0 (L) w):
  Calls Tryz.prog 142 #[AG [(5,fun q=>VU .u64 (o q))],AG [(5,fun q=>VU .u64 (d q))]] w fun e w'=>e= .returned (AG [(5,fun q=>VU .u64 (r q))])∧St B w0 (L) w':=by
 refine W.enter 29 Tryz.func142 rr rr rr ?_
 unfold jX at c
 refine ad fun _ s=>ag 3 0 ?_
 refine bp N rr rr ae.nil fun f a0 a2 t=>?_
 simp only [ao,Nat.zero_add,Nat.reduceAdd,ah,ai] at t
 refine bp t rr rr ae.nil fun u a3 a4 v=>?_
 simp only [ao,Nat.zero_add,Nat.reduceAdd,ah,ai] at v
 refine aa.alloc v rr c6 ae.nil fun g a5 a9 x=>?_
 simp only [ao,Nat.zero_add,Nat.reduceAdd,ah,ai] at x
 refine aa.fin s ?_;clear s
 refine ad fun _ y=>ad fun _ z=>?_
 refine ag 1 1 ?_
 refine aj rr rr<|aa.fin z ?_;clear z
 obtain ⟨O,P,Q⟩:=c
 refine bq (fun e w=>∃k:Nat→BitVec 64,O=k∧aU e [(2,pt f 0),(4,pt g 0)]∧St B w0 (⟨some g,0,5,fun q=>VU .u64 ((fun _=>0#64) q),true⟩::⟨some f,0,5,fun q=>VU .u64 (k q),true⟩::L) w) ?_ ?_
 ·
  refine W.block ?_
  refine bS P (fun (A:(Nat×(Nat→BitVec 64))) e w=>aU e [(2,pt f 0),(3,pt u 0),(4,pt g 0),(6,VN A.1)]∧St B w0 (⟨some g,0,5,fun q=>VU .u64 ((fun _=>0#64) q),true⟩::⟨some u,0,5,fun q=>VU .u64 (d q),true⟩::⟨some f,0,5,fun q=>VU .u64 (A.2 q),true⟩::L) w) ⟨(ab (ab (ab (ab au)))),x⟩ ?_
  rintro ⟨t24,l⟩ be c R S bi ⟨T,h28⟩
  obtain ⟨S,rfl⟩:=T.open
  unfold nn at c
  refine ad fun _ D=>ag 1 1 ?_
  refine aR (a:=(((t24:Nat):Int):Int)) (b:=(5:Int)) (p:=t24 < 5) rr rr rr rr bW<|aa.fin D ?_;clear D
  refine ad fun _ E=>?_
  by_cases h:t24 < 5
  ·
   replace c:=aA c h
   refine aG (congrArg Value.bool (decide_eq_true h)) ?_
   refine W.skip ?_
   refine E _ _ ?_;clear E
   refine ad fun _ F=>?_
   refine W.block ?_
   refine ad fun _ G=>ag 2 3 ?_
   refine aj rr rr<|ak rr rr<|aa.fin G ?_;clear G
   refine bd a7 [1,3,5,7,9,11,13,15,17,19,21,23,25,27,29,30] ?_
   have i:=h28.drew
   refine aj rr rr<|bm gy rr rr<|a1 (j:=t24) cP rr rr rr (by omega)<|bk (j:=t24) i 2 rr rr rr (by omega) dv<|aj rr rr<|a1 (j:=t24) cP rr rr rr (by omega)<|bk (j:=t24) i (iG3+3) rr rr M (by omega) dv<|aj rr rr ?_
   refine bm gy rr rr<|a1 (j:=t24) cP rr rr rr (by omega)<|bk (j:=t24) i 1 rr rr rr (by omega) dv<|nN .u64 (X:=(dn t24)) (Y:=(d t24)) rr rr rr<|cD .u64 (X:=(l t24)) (Y:=((dn t24) - (d t24))) rr rr rr<|bm gy rr rr<|a1 (j:=t24) cP rr rr rr (by omega) ?_
   refine cr (j:=t24) (X:=((l t24)+((dn t24) - (d t24)))) i 2 rr rr rr rr (by omega) fN rr fun bv H=>?_
   simp only [ah,ai,aq,ar] at H
   refine aa.nil ?_
   refine bo ?_
   refine F _ _ ?_;clear F
   refine ag 2 3 ?_
   refine bu (a:=t24) (b:=1) rr rr rr (by omega)<|aj rr rr<|aa.nil ?_
   exact bG ⟨_,c,(ab (ab (ab (ab au)))),H⟩
  ·
   replace c:=az c h
   refine aO (congrArg Value.bool (decide_eq_false h)) ?_
   refine W.exit (bM (bU (bL ?_)))
   exact ⟨l,(R _ c).symm,(ab (ab au)),bt 3 [0,2] h28⟩
 ·
  rintro U cc ⟨k,V,Z,I⟩
  obtain ⟨U,rfl⟩:=Z.open
  subst V
  replace c:=Q
  refine y _ _ ?_;clear y
  refine ad fun _ J=>ag 5 11 ?_
  refine bm gy rr rr<|aP I 1 rr rr rr kM ?_
  obtain ⟨m,am,c⟩:=c
  refine aw me (lO am I) ?_
  rintro _ cd ⟨rfl,ap⟩
  refine ⟨_,rr,.inr ⟨rr,?_⟩⟩
  refine dt (ps:= [(5,fun q=>VU .u64 (m q))]) lP (by decide) c6 rr rr (.agg [] [(5,fun q=>VU .u64 ((fun _=>0#64) q))] [] [(5,fun q=>VU .u64 (m q))] rr rr .nil) ?_
  refine aY (f':=fun q=>VU .u64 (m q)) ap 0 rr rr rr rr (fun _ _=>rr) cY rr fun ce n=>?_
  simp only [ah,ai,aq,ar] at n
  refine aa.fin J ?_;clear J
  refine W.ret (aB ?_)
  have K:=St.aF (C:= [_,_]) n [] (by decide)
  simp only [pick,aL,aK,aM,aJ,ah,ai] at K
  subst r
  refine ax.mk (.agg n rr (.cons 0 rr .nil) bF .nil) ?_
  exact ⟨rr,K⟩
theorem Gi {B:Nat} {w0:aC} {w:World} {L:List Rg} {c a a3 j:BitVec 64} {r:((BitVec 64)×(BitVec 64))} (b:n9 c a a3 j r) (v:St B w0 (L) w):
  Calls Tryz.prog 144 #[AG [p1 (VU .u64 c),p1 (VU .u64 a)],VU .u64 a3,VU .u64 j] w fun e w'=>e= .returned (AG [p1 (VU .u64 r.1),p1 (VU .u64 r.2)])∧St B w0 (L) w':=by
 refine W.enter 34 Tryz.func144 rr rr rr ?_
 unfold n9 at b
 refine ad fun _ k=>ag 2 0 ?_
 refine bp v rr rr ae.nil fun z A D l=>?_
 simp only [ao,Nat.zero_add,Nat.reduceAdd,ah,ai] at l
 refine aa.alloc l rr yn ae.nil fun E F G m=>?_
 simp only [ao,Nat.zero_add,Nat.reduceAdd,ah,ai] at m
 refine aa.fin k ?_;clear k
 refine ad fun _ n=>ag 8 251 ?_
 refine aj rr rr<|aj rr rr ?_
 obtain ⟨o,d,x,b⟩:=b
 refine aw GA (EJ x m) ?_
 rintro _ H ⟨rfl,f⟩
 refine ⟨_,rr,.inl ⟨ae.keep (by exact ae.nil) f,?_⟩⟩
 refine bK rr rr<|b' rr rr rr<|b' rr rr rr<|ak rr rr<|ak rr rr<|aa.fin n ?_;clear n
 refine ad fun _ p=>ag 1 1 ?_
 refine ak rr rr<|aa.fin p ?_;clear p
 refine ad fun _ q=>ag 10 759 ?_
 refine aa.fieldAddr 1 sn rr rr<|aX f 3 rr rr rr (by omega) dv<|aj rr rr<|rC (X:=a) (Y:=d) (C:=0#64) Tryz.func145 rr rr rr rr rr rr rr rr (by decide)<|bK rr rr<|b' rr rr rr<|b' rr rr rr<|aa.fieldAddr 1 sn rr rr ?_
 refine gn f 3 rr rr rr rr fN rr fun I g=>?_
 simp only [ah,ai,aq,ar] at g
 refine ak rr rr<|aa.fin q ?_;clear q
 refine ad fun _ s=>ag 10 495 ?_
 refine bm qQ rr rr<|aX g 2 rr rr rr (by omega) dv<|aj rr rr<|aj rr rr ?_
 obtain ⟨y,b⟩:=b
 refine rC (X:=c) (Y:=o) (C:=(BitVec.ofNat 64 ((a.toNat+d.toNat+(0#64).toNat) / 2 ^ 64))) Tryz.func145 rr rr rr rr rr rr rr rr y<|bK rr rr<|b' rr rr rr<|b' rr rr rr<|bm qQ rr rr ?_
 refine gn g 2 rr rr rr rr fN rr fun J h=>?_
 simp only [ah,ai,aq,ar] at h
 refine aa.fin s ?_;clear s
 refine ad fun _ t=>ag 2 1 ?_
 refine bO h rr rr (.cons 2 rr (.cons 3 rr .nil)) oD ?_
 refine bA (ps:= [p1 (VU .u64 (c+o+(BitVec.ofNat 64 ((a.toNat+d.toNat+(0#64).toNat) / 2 ^ 64)))),p1 (VU .u64 (a+d+(0#64)))]) h rr rr rr (.cons 0 rr (.cons 1 rr .nil)) ⟨fun _ _=>rr,fun _ _=>rr,trivial⟩ qA (av.wait rr) fun K i=>?_
 simp only [ah,ai,aq,ar] at i
 refine aa.fin t ?_;clear t
 refine W.ret (aB ?_)
 have u:=St.aF (C:= [_,_,_,_]) i [] (by decide)
 simp only [pick,aL,aK,aM,aJ,ah,ai] at u
 subst r
 refine ax.mk (.agg i rr (.cons 0 rr (.cons 1 rr .nil)) oD .nil) ?_
 exact ⟨rr,u⟩
theorem h7 {B:Nat} {w0:aC} {w:World} {L:List Rg} {n i:Nat→BitVec 64} {r:(Nat→BitVec 64)} (d:fZ n i r) (ex:St B w0 (L) w):
  Calls Tryz.prog 109 #[AG [(5,fun q=>VU .u64 (n q))],AG [(5,fun q=>VU .u64 (i q))]] w fun e w'=>e= .returned (AG [(5,fun q=>VU .u64 (r q))])∧St B w0 (L) w':=by
 refine W.enter 86 Tryz.func109 rr rr rr ?_
 unfold fZ at d
 refine ad fun _ R=>ag 3 0 ?_
 refine bp ex rr rr ae.nil fun l it i0 S=>?_
 simp only [ao,Nat.zero_add,Nat.reduceAdd,ah,ai] at S
 refine bp S rr rr ae.nil fun m i1 i2 T=>?_
 simp only [ao,Nat.zero_add,Nat.reduceAdd,ah,ai] at T
 refine aa.alloc T rr c6 ae.nil fun g i3 i4 U=>?_
 simp only [ao,Nat.zero_add,Nat.reduceAdd,ah,ai] at U
 refine aa.fin R ?_;clear R
 refine ad fun _ V=>ag 1 0 ?_
 refine aa.alloc U rr Bp ae.nil fun h i5 i6 Z=>?_
 simp only [ao,Nat.zero_add,Nat.reduceAdd,ah,ai] at Z
 refine aa.fin V ?_;clear V
 refine ad fun _ am=>ad fun _ ap=>?_
 refine ag 1 1 ?_
 refine aj rr rr<|aa.fin ap ?_;clear ap
 obtain ⟨f,fd,fn⟩:=d
 refine bq (fun e w=>∃D:Nat→BitVec 64,f=D∧aU e [(4,pt g 0),(5,pt h 0)]∧St B w0 (⟨some h,0,10,fun q=>VU .u64 (D q),true⟩::⟨some g,0,5,fun q=>VU .u64 ((fun _=>0#64) q),true⟩::L) w) ?_ ?_
 ·
  refine W.block ?_
  refine bS fd (fun (a0:(Nat×(Nat→BitVec 64))) e w=>aU e [(2,pt l 0),(3,pt m 0),(4,pt g 0),(5,pt h 0),(16,VN a0.1)]∧St B w0 (⟨some h,0,10,fun q=>VU .u64 (a0.2 q),true⟩::⟨some g,0,5,fun q=>VU .u64 ((fun _=>0#64) q),true⟩::⟨some m,0,5,fun q=>VU .u64 (i q),true⟩::⟨some l,0,5,fun q=>VU .u64 (n q),true⟩::L) w) ⟨(ab (ab (ab (ab (ab au))))),Z⟩ ?_
  rintro ⟨t153,f0⟩ i7 d f1 f2 i8 ⟨f3,a2⟩
  obtain ⟨f2,rfl⟩:=f3.open
  unfold mV at d
  refine ad fun _ a3=>ag 1 1 ?_
  refine aR (a:=(((t153:Nat):Int):Int)) (b:=(5:Int)) (p:=t153 < 5) rr rr rr rr bW<|aa.fin a3 ?_;clear a3
  refine ad fun _ a4=>?_
  by_cases o:t153 < 5
  ·
   replace d:=aA d o
   refine aG (congrArg Value.bool (decide_eq_true o)) ?_
   refine W.skip ?_
   refine a4 _ _ ?_;clear a4
   refine ad fun _ a5=>?_
   refine W.block ?_
   refine ad fun _ a9=>ag 2 3 ?_
   refine aj rr rr<|ak rr rr<|aa.fin a9 ?_;clear a9
   refine ad fun _ be=>ag 1 1 ?_
   refine aj rr rr<|aa.fin be ?_;clear be
   obtain ⟨f4,f5,f6⟩:=d
   refine bq (fun e w=>∃E:Nat→BitVec 64,f4=E∧aU e [(2,pt l 0),(3,pt m 0),(4,pt g 0),(5,pt h 0),(16,VN t153)]∧St B w0 (⟨some h,0,10,fun q=>VU .u64 (E q),true⟩::⟨some g,0,5,fun q=>VU .u64 ((fun _=>0#64) q),true⟩::⟨some m,0,5,fun q=>VU .u64 (i q),true⟩::⟨some l,0,5,fun q=>VU .u64 (n q),true⟩::L) w) ?_ ?_
   ·
    refine W.block ?_
    refine bS f5 (fun (bi:(Nat×(Nat→BitVec 64))) e w=>aU e [(2,pt l 0),(3,pt m 0),(4,pt g 0),(5,pt h 0),(6,VN t153),(16,VN t153),(19,VN bi.1)]∧St B w0 (⟨some h,0,10,fun q=>VU .u64 (bi.2 q),true⟩::⟨some g,0,5,fun q=>VU .u64 ((fun _=>0#64) q),true⟩::⟨some m,0,5,fun q=>VU .u64 (i q),true⟩::⟨some l,0,5,fun q=>VU .u64 (n q),true⟩::L) w) ⟨(ab (ab (ab (ab (ab (ab (ab au))))))),a2⟩ ?_
    rintro ⟨t205,bv⟩ i9 d f7 f8 jd ⟨f9,s⟩
    obtain ⟨f8,rfl⟩:=f9.open
    unfold o4 at d
    refine ad fun _ cc=>ag 1 1 ?_
    refine aR (a:=(((t205:Nat):Int):Int)) (b:=(5:Int)) (p:=t205 < 5) rr rr rr rr bW<|aa.fin cc ?_;clear cc
    refine ad fun _ cd=>?_
    by_cases t:t205 < 5
    ·
     replace d:=aA d t
     refine aG (congrArg Value.bool (decide_eq_true t)) ?_
     refine W.skip ?_
     refine cd _ _ ?_;clear cd
     refine ad fun _ ce=>?_
     refine W.block ?_
     refine ad fun _ ci=>ag 2 3 ?_
     refine aj rr rr<|ak rr rr<|aa.fin ci ?_;clear ci
     refine ad fun _ cl=>ag 5 31 ?_
     refine aj rr rr<|bm gy rr rr<|a1 (j:=t205) cP rr rr rr (by omega)<|bk (j:=t205) s 2 rr rr rr (by omega) dv<|ak rr rr<|aa.fin cl ?_;clear cl
     refine ad fun _ co=>?_
     obtain ⟨gc,gd,ge⟩:=d
     refine bq (fun e w=>∃F:BitVec 64,(gc=F)∧aU e [(2,pt l 0),(3,pt m 0),(4,pt g 0),(5,pt h 0),(6,VN t153),(7,VN t205),(8,VU .u64 F),(16,VN t153),(19,VN t205)]∧St B w0 (⟨some h,0,10,fun q=>VU .u64 (bv q),true⟩::⟨some g,0,5,fun q=>VU .u64 ((fun _=>0#64) q),true⟩::⟨some m,0,5,fun q=>VU .u64 (i q),true⟩::⟨some l,0,5,fun q=>VU .u64 (n q),true⟩::L) w) ?_ ?_
     ·
      replace d:=gd
      refine ad fun _ cs=>ag 4 15 ?_
      refine aj rr rr<|aj rr rr<|bu (a:=t153) (b:=t205) rr rr rr (by omega)<|aR (a:=((((t153+t205):Nat):Int):Int)) (b:=(5:Int)) (p:=5≤(t153+t205)) rr rr rr rr jc<|aa.fin cs ?_;clear cs
      by_cases u:5≤(t153+t205)
      ·
       replace d:=aA d u
       refine aG (congrArg Value.bool (decide_eq_true u)) ?_
       refine ag 3 7 ?_
       refine aj rr rr<|gH .u64 (X:=(i t205)) (Y:=19#64) rr rr rr<|ak rr rr<|aa.nil ?_
       exact ⟨((i t205)*(19#64)),d,(ab (ab (ab (ab (ab (ab (ab (ab (ab au))))))))),s⟩
      ·
       replace d:=az d u
       refine aO (congrArg Value.bool (decide_eq_false u)) ?_
       refine W.skip ?_
       exact ⟨(i t205),d,(ab (ab (ab (ab (ab (ab (ab (ab (ab au))))))))),s⟩
     ·
      rintro go jp ⟨F,gs,gt,g0⟩
      subst gs
      obtain ⟨go,rfl⟩:=gt.open
      replace d:=ge
      refine co _ _ ?_;clear co
      refine bd a7 [1,3,5,7,9,11,13,15,17,19,21,23,25,27,29,30,33,34] ?_
      have G:=g0.drew
      refine aj rr rr<|aj rr rr<|bu (a:=t153) (b:=t205) rr rr rr (by omega)<|iJ (a:=(t153+t205)) (b:=5) rr rr rr (by omega)<|aj rr rr<|aj rr rr<|bu (a:=t153) (b:=t205) rr rr rr (by omega)<|iJ (a:=(t153+t205)) (b:=5) rr rr rr (by omega) ?_
      refine c3 (j:=((t153+t205) % 5)) (o':=0+(((t153+t205) % 5)*2)) tT rr rr rr (by omega) (by omega)<|lf (m':=2) G 0 (((t153+t205) % 5)*2) rr rr rr rr (by omega) oD<|aj rr rr<|bm gy rr rr<|a1 (j:=t153) cP rr rr rr (by omega)<|bk (j:=t153) G 3 rr rr rr (by omega) dv<|aj rr rr ?_
      obtain ⟨g1,g2,g3,d⟩:=d
      refine aw Et (Gi g3 G) ?_
      rintro _ kk ⟨rfl,g4⟩
      refine ⟨_,rr,.inr ⟨rr,?_⟩⟩
      refine c3 (j:=((t153+t205) % 5)) (o':=0+(((t153+t205) % 5)*2)) tT rr rr rr (by omega) (by omega) ?_
      refine zY (m':=2) (j:=((t153+t205) % 5)*2) (f':=fun q=>VU .u64 ((lit [g1,g2]) q)) g4 0 rr rr rr rr rr (by omega) (fun _ _=>rr) qA (av.keep ae.nil) fun kw H=>?_
      simp only [ah,ai,aq,ar] at H
      simp only [← o1 (fun z=>VU .u64 z)] at H
      refine aa.nil ?_
      refine bo ?_
      refine ce _ _ ?_;clear ce
      refine ag 2 3 ?_
      refine bu (a:=t205) (b:=1) rr rr rr (by omega)<|aj rr rr<|aa.nil ?_
      exact bG ⟨_,d,(ab (ab (ab (ab (ab (ab (ab au))))))),H⟩
    ·
     replace d:=az d t
     refine aO (congrArg Value.bool (decide_eq_false t)) ?_
     refine W.exit (bM (bU (bL ?_)))
     exact ⟨bv,(f7 _ d).symm,(ab (ab (ab (ab (ab au))))),s⟩
   ·
    rintro g5 lc ⟨E,g6,g7,g8⟩
    obtain ⟨g5,rfl⟩:=g7.open
    subst g6
    replace d:=f6
    refine bo ?_
    refine a5 _ _ ?_;clear a5
    refine ag 2 3 ?_
    refine bu (a:=t153) (b:=1) rr rr rr (by omega)<|aj rr rr<|aa.nil ?_
    exact bG ⟨_,d,(ab (ab (ab (ab (ab au))))),g8⟩
  ·
   replace d:=az d o
   refine aO (congrArg Value.bool (decide_eq_false o)) ?_
   refine W.exit (bM (bU (bL ?_)))
   exact ⟨f0,(f1 _ d).symm,(ab (ab au)),bt 4 [0,1] a2⟩
 ·
  rintro g9 ld ⟨D,he,hi,hk⟩
  obtain ⟨g9,rfl⟩:=hi.open
  subst he
  replace d:=fn
  refine am _ _ ?_;clear am
  refine ad fun _ c1=>ag 1 0 ?_
  refine aa.alloc hk rr mU ae.nil fun v le li I=>?_
  simp only [ao,Nat.zero_add,Nat.reduceAdd,ah,ai] at I
  refine aa.fin c1 ?_;clear c1
  refine ad fun _ c2=>ag 1 1 ?_
  refine ak rr rr<|aa.fin c2 ?_;clear c2
  refine ad fun _ dl=>ad fun _ ds=>?_
  refine ag 2 3 ?_
  refine aP I 1 rr rr rr CM<|aj rr rr<|aa.fin ds ?_;clear ds
  obtain ⟨x,J,hm,hu⟩:=d
  refine bq (fun e w=>∃K:BitVec 64,∃M:Nat→BitVec 64,(x,J)=(K,M)∧aU e [(4,pt g 0),(9,pt v 0),(10,VU .u64 K)]∧St B w0 (⟨some v,0,5,fun q=>VU .u64 (M q),true⟩::⟨some g,0,5,fun q=>VU .u64 ((fun _=>0#64) q),true⟩::L) w) ?_ ?_
  ·
   refine W.block ?_
   refine bS hm (fun (N:((BitVec 64)×Nat×(Nat→BitVec 64))) e w=>aU e [(4,pt g 0),(9,pt v 0),(10,VU .u64 N.1),(51,AG [(10,fun q=>VU .u64 (f q))]),(52,VN N.2.1)]∧St B w0 (⟨some v,0,5,fun q=>VU .u64 (N.2.2 q),true⟩::⟨some g,0,5,fun q=>VU .u64 ((fun _=>0#64) q),true⟩::L) w) ⟨(ab (ab (ab (ab (ab au))))),bt 3 [0,2] I⟩ ?_
   rintro ⟨k,t263,hw⟩ lm d hH hO lo ⟨h1,d0⟩
   obtain ⟨hO,rfl⟩:=h1.open
   unfold m_ at d
   refine ad fun _ d1=>ag 1 1 ?_
   refine aR (a:=(((t263:Nat):Int):Int)) (b:=(5:Int)) (p:=t263 < 5) rr rr rr rr bW<|aa.fin d1 ?_;clear d1
   refine ad fun _ d2=>?_
   by_cases y:t263 < 5
   ·
    replace d:=aA d y
    refine aG (congrArg Value.bool (decide_eq_true y)) ?_
    refine W.skip ?_
    refine d2 _ _ ?_;clear d2
    refine ad fun _ d3=>?_
    refine W.block ?_
    refine ad fun _ d4=>ag 5 11 ?_
    refine aj rr rr<|xK (j:=t263) (sz:=2) C1 oD rr rr rr (by omega) (by decide) ?_
    refine aa.alloc d0 rr yn ae.nil fun ls lt lw d5=>?_
    simp only [ao,Nat.zero_add,Nat.reduceAdd,ah,ai] at d5
    refine ak rr rr ?_
    refine bA (ps:= [p1 (VU .u64 (f (t263*2+0))),p1 (VU .u64 (f (t263*2+1)))]) d5 rr rr rr (.cons 0 rr (.cons 1 rr .nil)) ⟨fun _ _=>rr,fun _ _=>rr,trivial⟩ qA (av.keep ae.nil) fun md A=>?_
    simp only [ah,ai,aq,ar] at A
    refine aa.fin d4 ?_;clear d4
    refine ad fun _ d6=>ag 9 503 ?_
    refine aa.fieldAddr 1 sn rr rr<|aX A 1 rr rr rr (by omega) dv<|aj rr rr<|rC (X:=(f (t263*2+1))) (Y:=k) (C:=0#64) Tryz.func145 rr rr rr rr rr rr rr rr (by decide)<|bK rr rr<|b' rr rr rr<|b' rr rr rr<|ak rr rr ?_
    refine ak rr rr<|aa.fin d6 ?_;clear d6
    refine ad fun _ d7=>ag 5 31 ?_
    refine bm qQ rr rr<|aX A 0 rr rr rr (by omega) dv<|aj rr rr<|cD .u64 (X:=(f (t263*2+0))) (Y:=(BitVec.ofNat 64 (((f (t263*2+1)).toNat+k.toNat+(0#64).toNat) / 2 ^ 64))) rr rr rr<|ak rr rr<|aa.fin d7 ?_;clear d7
    refine ad fun _ d8=>ag 5 15 ?_
    refine aj rr rr<|aj rr rr<|dx .u64 (X:=((f (t263*2+1))+k+(0#64))) (Y:=2251799813685247#64) rr rr rr<|a1 (j:=t263) cP rr rr rr (by omega) ?_
    refine cr (j:=t263) (X:=(((f (t263*2+1))+k+(0#64)) &&& (2251799813685247#64))) A 2 rr rr rr rr (by omega) fN rr fun mp d9=>?_
    simp only [ah,ai,aq,ar] at d9
    refine aa.fin d8 ?_;clear d8
    refine ag 6 63 ?_
    refine aj rr rr<|hE .u64 (X:=((f (t263*2+0))+(BitVec.ofNat 64 (((f (t263*2+1)).toNat+k.toNat+(0#64).toNat) / 2 ^ 64)))) (c:=13) rr rr rr<|aj rr rr<|cJ .u64 (X:=((f (t263*2+1))+k+(0#64))) (c:=51) rr rr rr<|gI .u64 (X:=(((f (t263*2+0))+(BitVec.ofNat 64 (((f (t263*2+1)).toNat+k.toNat+(0#64).toNat) / 2 ^ 64))) <<< 13)) (Y:=(((f (t263*2+1))+k+(0#64)) >>> 51)) rr rr rr<|ak rr rr<|aa.nil ?_
    refine bo ?_
    refine d3 _ _ ?_;clear d3
    refine ag 2 3 ?_
    refine bu (a:=t263) (b:=1) rr rr rr (by omega)<|aj rr rr<|aa.nil ?_
    exact bG ⟨_,d,(ab (ab (ab (ab (ab au))))),bt 4 [2,3] d9⟩
   ·
    replace d:=az d y
    refine aO (congrArg Value.bool (decide_eq_false y)) ?_
    refine W.exit (bM (bU (bL ?_)))
    exact ⟨k,hw,(hH _ d).symm,(ab (ab (ab au))),d0⟩
  ·
   rintro id ms ⟨K,M,ii,io,el⟩
   obtain ⟨id,rfl⟩:=io.open
   cases ii
   replace d:=hu
   refine dl _ _ ?_;clear dl
   refine ad fun _ em=>ag 7 63 ?_
   refine a1 (j:=0) cP rr rr rr (by omega)<|bk (j:=0) el 0 rr rr rr (by omega) dv<|aj rr rr<|gH .u64 (X:=19#64) (Y:=x) rr rr rr<|cD .u64 (X:=(J 0)) (Y:=((19#64)*x)) rr rr rr<|a1 (j:=0) cP rr rr rr (by omega) ?_
   refine cr (j:=0) (X:=((J 0)+((19#64)*x))) el 0 rr rr rr rr (by omega) fN rr fun mt O=>?_
   simp only [ah,ai,aq,ar] at O
   refine aa.fin em ?_;clear em
   refine ad fun _ eq=>ag 4 5 ?_
   refine aP O 0 rr rr rr kM ?_
   obtain ⟨P,ip,d⟩:=d
   refine aw me (lO ip O) ?_
   rintro _ m0 ⟨rfl,is⟩
   refine ⟨_,rr,.inr ⟨rr,?_⟩⟩
   refine dt (ps:= [(5,fun q=>VU .u64 (P q))]) lP (by decide) c6 rr rr (.agg [] [(5,fun q=>VU .u64 ((fun _=>0#64) q))] [] [(5,fun q=>VU .u64 (P q))] rr rr .nil) ?_
   refine aY (f':=fun q=>VU .u64 (P q)) is 1 rr rr rr rr (fun _ _=>rr) cY rr fun m1 Q=>?_
   simp only [ah,ai,aq,ar] at Q
   refine aa.fin eq ?_;clear eq
   refine W.ret (aB ?_)
   have es:=St.aF (C:= [_,_]) Q [] (by decide)
   simp only [pick,aL,aK,aM,aJ,ah,ai] at es
   subst r
   refine ax.mk (.agg Q rr (.cons 1 rr .nil) bF .nil) ?_
   exact ⟨rr,es⟩
theorem lC {B:Nat} {w0:aC} {w:World} {L:List Rg} {d:Nat→BitVec 64} {r:(Nat→BitVec 64)} (b:je d r) (i:St B w0 (L) w):
  Calls Tryz.prog 143 #[AG [(5,fun q=>VU .u64 (d q))]] w fun e w'=>e= .returned (AG [(5,fun q=>VU .u64 (r q))])∧St B w0 (L) w':=by
 refine W.enter 6 Tryz.func143 rr rr rr ?_
 unfold je at b
 refine ad fun _ f=>ag 2 0 ?_
 refine bp i rr rr ae.nil fun m n o h3=>?_
 simp only [ao,Nat.zero_add,Nat.reduceAdd,ah,ai] at h3
 refine aa.alloc h3 rr c6 ae.nil fun p s t a=>?_
 simp only [ao,Nat.zero_add,Nat.reduceAdd,ah,ai] at a
 refine aa.fin f ?_;clear f
 refine ad fun _ g=>ag 4 3 ?_
 refine aP a 1 rr rr rr bF<|aP a 1 rr rr rr bF ?_
 obtain ⟨j,k,b⟩:=b
 refine aw ib (h7 k a) ?_
 rintro _ u ⟨rfl,l⟩
 refine ⟨_,rr,.inr ⟨rr,?_⟩⟩
 refine aY (f':=fun q=>VU .u64 (j q)) l 0 rr rr rr rr (fun _ _=>rr) cY rr fun v c=>?_
 simp only [ah,ai,aq,ar] at c
 refine aa.fin g ?_;clear g
 refine W.ret (aB ?_)
 have h:=St.aF (C:= [_,_]) c [] (by decide)
 simp only [pick,aL,aK,aM,aJ,ah,ai] at h
 subst r
 refine ax.mk (.agg c rr (.cons 0 rr .nil) bF .nil) ?_
 exact ⟨rr,h⟩
theorem BO {B:Nat} {w0:aC} {w:World} {L:List Rg} {d f:BitVec 8} {r:K8} (c:ow d f r) (J:St B w0 (L) w):
  Calls Tryz.prog 148 #[VU .u8 d,VU .u8 f] w fun e w'=>e= .returned (AG [p8 32 r])∧St B w0 (L) w':=by
 refine W.enter 18 Tryz.func148 rr rr rr ?_
 unfold ow at c
 refine ad fun _ n=>ag 1 0 ?_
 refine aa.alloc J rr c4 ae.nil fun g U V o=>?_
 simp only [ao,Nat.zero_add,Nat.reduceAdd,ah,ai] at o
 refine aa.fin n ?_;clear n
 refine ad fun _ s=>ag 1 0 ?_
 refine aa.alloc o rr c4 ae.nil fun h Y Z t=>?_
 simp only [ao,Nat.zero_add,Nat.reduceAdd,ah,ai] at t
 refine aa.fin s ?_;clear s
 refine ad fun _ u=>ad fun _ v=>?_
 refine ag 1 1 ?_
 refine aj rr rr<|aa.fin v ?_;clear v
 obtain ⟨m24,K,M⟩:=c
 refine bq (fun e w=>∃k:K8,m24=k∧aU e [(0,VU .u8 d),(1,VU .u8 f),(4,pt g 0),(5,pt h 0)]∧St B w0 (g8 h 0 32 k::g8 g 0 32 (fun _=>0#8)::L) w) ?_ ?_
 ·
  refine W.block ?_
  refine bS K (fun (x:(Nat×K8)) e w=>aU e [(0,VU .u8 d),(1,VU .u8 f),(4,pt g 0),(5,pt h 0),(7,VN x.1)]∧St B w0 (g8 h 0 32 x.2::g8 g 0 32 (fun _=>0#8)::L) w) ⟨(ab (ab (ab (ab (ab au))))),t⟩ ?_
  rintro ⟨t22,m23⟩ am c N O ap ⟨P,h26⟩
  obtain ⟨O,rfl⟩:=P.open
  unfold nV at c
  refine ad fun _ y=>ag 1 1 ?_
  refine aR (a:=(((t22:Nat):Int):Int)) (b:=(32:Int)) (p:=t22 < 32) rr rr rr rr bW<|aa.fin y ?_;clear y
  refine ad fun _ z=>?_
  by_cases i:t22 < 32
  ·
   replace c:=aA c i
   refine aG (congrArg Value.bool (decide_eq_true i)) ?_
   refine W.skip ?_
   refine z _ _ ?_;clear z
   refine ad fun _ A=>?_
   refine W.block ?_
   refine ad fun _ D=>ag 2 3 ?_
   refine aj rr rr<|ak rr rr<|aa.fin D ?_;clear D
   refine ag 3 3 ?_
   refine aj rr rr<|a1 (j:=t22) c' rr rr rr (by omega) ?_
   refine cr (j:=t22) (X:=255#8) h26 0 rr rr rr rr (by omega) bJ rr fun a0 E=>?_
   simp only [ah,ai,aq,ar] at E
   refine aa.nil ?_
   refine bo ?_
   refine A _ _ ?_;clear A
   refine ag 2 3 ?_
   refine bu (a:=t22) (b:=1) rr rr rr (by omega)<|aj rr rr<|aa.nil ?_
   exact bG ⟨_,c,(ab (ab (ab (ab (ab au))))),E⟩
  ·
   replace c:=az c i
   refine aO (congrArg Value.bool (decide_eq_false i)) ?_
   refine W.exit (bM (bU (bL ?_)))
   exact ⟨m23,(N _ c).symm,(ab (ab (ab (ab au)))),h26⟩
 ·
  rintro Q a2 ⟨k,R,S,T⟩
  obtain ⟨Q,rfl⟩:=S.open
  subst R
  replace c:=M
  refine u _ _ ?_;clear u
  refine ad fun _ F=>ag 6 23 ?_
  refine aj rr rr<|aj rr rr<|a1 (j:=0) c' rr rr rr (by omega) ?_
  refine cr (j:=0) (X:=d) T 0 rr rr rr rr (by omega) bJ rr fun a3 G=>?_
  simp only [ah,ai,aq,ar] at G
  refine a1 (j:=31) c' rr rr rr (by omega) ?_
  refine cr (j:=31) (X:=f) G 0 rr rr rr rr (by omega) bJ rr fun a4 l=>?_
  simp only [ah,ai,aq,ar] at l
  refine aa.fin F ?_;clear F
  refine ad fun _ H=>ag 2 1 ?_
  refine aP l 0 rr rr rr ba ?_
  refine aY (f':=fun q=>VU .u8 ((an (an m24 0 d) 31 f) q)) l 1 rr rr rr rr (fun _ _=>rr) bP rr fun a5 m=>?_
  simp only [ah,ai,aq,ar] at m
  refine aa.fin H ?_;clear H
  refine W.ret (aB ?_)
  have I:=St.aF (C:= [_,_]) m [] (by decide)
  simp only [pick,aL,aK,aM,aJ,ah,ai] at I
  subst r
  refine ax.mk (.agg m rr (.cons 1 rr .nil) ba .nil) ?_
  exact ⟨rr,I⟩
theorem CA {B:Nat} {w0:aC} {w:World} {L:List Rg} {o:Nat→BitVec 64} {g:K8} {r:(Nat→BitVec 64)} (d:nr o g r) (V:St B w0 (L) w):
  Calls Tryz.prog 147 #[AG [(5,fun q=>VU .u64 (o q))],AG [p8 32 g]] w fun e w'=>e= .returned (AG [(5,fun q=>VU .u64 (r q))])∧St B w0 (L) w':=by
 refine W.enter 27 Tryz.func147 rr rr rr ?_
 unfold nr at d
 refine ad fun _ v=>ag 3 0 ?_
 refine bp V rr rr ae.nil fun x c2 dl y=>?_
 simp only [ao,Nat.zero_add,Nat.reduceAdd,ah,ai] at y
 refine bp y rr rr ae.nil fun z ds d0 A=>?_
 simp only [ao,Nat.zero_add,Nat.reduceAdd,ah,ai] at A
 refine aa.alloc A rr c6 ae.nil fun i d1 d2 D=>?_
 simp only [ao,Nat.zero_add,Nat.reduceAdd,ah,ai] at D
 refine aa.fin v ?_;clear v
 refine ad fun _ E=>ag 3 0 ?_
 obtain ⟨Z,am,d⟩:=d
 refine aw rR (rp am D) ?_
 rintro _ d3 ⟨rfl,F⟩
 refine ⟨_,rr,.inl ⟨ae.keep (by exact ae.nil) F,?_⟩⟩
 refine aa.alloc F rr c6 ae.nil fun k d4 d5 G=>?_
 simp only [ao,Nat.zero_add,Nat.reduceAdd,ah,ai] at G
 refine aY (f':=fun q=>VU .u64 (Z q)) G 0 rr rr rr rr (fun _ _=>rr) cY rr fun d6 H=>?_
 simp only [ah,ai,aq,ar] at H
 refine aa.fin E ?_;clear E
 refine ad fun _ I=>ad fun _ J=>?_
 refine ag 1 1 ?_
 refine ak rr rr<|aa.fin J ?_;clear J
 obtain ⟨K,ap,a0⟩:=d
 refine bq (fun e w=>∃s:Nat→BitVec 64,K=s∧aU e [(4,pt i 0),(5,pt k 0)]∧St B w0 (⟨some k,0,5,fun q=>VU .u64 (s q),true⟩::⟨some i,0,5,fun q=>VU .u64 ((fun _=>0#64) q),true⟩::L) w) ?_ ?_
 ·
  refine W.block ?_
  refine bS ap (fun (M:(Int×(Nat→BitVec 64))) e w=>aU e [(2,pt x 0),(3,pt z 0),(4,pt i 0),(5,pt k 0),(6,.int .i64 M.1)]∧St B w0 (⟨some k,0,5,fun q=>VU .u64 (M.2 q),true⟩::⟨some i,0,5,fun q=>VU .u64 ((fun _=>0#64) q),true⟩::g8 z 0 32 g::⟨some x,0,5,fun q=>VU .u64 (o q),true⟩::L) w) ⟨(ab (ab (ab (ab (ab au))))),H⟩ ?_
  rintro ⟨f,a2⟩ d7 d a3 a4 d8 ⟨a5,t⟩
  obtain ⟨a4,rfl⟩:=a5.open
  unfold lQ at d
  refine ad fun _ N=>ad fun _ O=>?_
  refine ag 2 3 ?_
  refine aj rr rr<|aR (a:=(f:Int)) (b:=(0:Int)) (p:=0≤f) rr rr rr rr mo<|aa.fin O ?_;clear O
  by_cases l:0≤f
  ·
   replace d:=aA d l
   refine aG (congrArg Value.bool (decide_eq_true l)) ?_
   refine W.skip ?_
   refine N _ _ ?_;clear N
   refine ad fun _ m=>?_
   refine W.block ?_
   refine ad fun _ P=>ag 3 1 ?_
   refine aP t 0 rr rr rr bF ?_
   obtain ⟨a9,be,d⟩:=d
   refine aw lK (lC be t) ?_
   rintro _ d9 ⟨rfl,bi⟩
   refine ⟨_,rr,.inr ⟨rr,?_⟩⟩
   refine aY (f':=fun q=>VU .u64 (a9 q)) bi 0 rr rr rr rr (fun _ _=>rr) cY rr fun el h=>?_
   simp only [ah,ai,aq,ar] at h
   refine aa.fin P ?_;clear P
   refine ad fun _ Q=>ag 9 511 ?_
   refine aj rr rr ?_
   obtain ⟨bv,d⟩:=d
   refine lp (a:=f) (b:=8) rr rr rr (by omega) bv ?_
   obtain ⟨cc,d⟩:=d
   refine a1 (j:=(f.tdiv 8).toNat) c' rr rr (congrArg (Value.int .i64) (Int.toNat_of_nonneg cc.1).symm) (by omega)<|bk (j:=(f.tdiv 8).toNat) h 2 rr rr rr (by omega) bZ<|aj rr rr ?_
   have em:=jw f (c:=8) (by decide)
   refine iP (a:=f) (b:=8) rr rr rr (by omega) ?_
   obtain ⟨cd,d⟩:=d
   refine cJ .u8 (X:=(g ((f.tdiv 8).toNat))) (c:=(f.tmod 8).toNat) rr rr (congrArg (Value.int .i64) (Int.toNat_of_nonneg cd).symm)<|dx .u8 (X:=((g ((f.tdiv 8).toNat)) >>> ((f.tmod 8).toNat))) (Y:=1#8) rr rr rr<|aR (a:=((((g ((f.tdiv 8).toNat)) >>> ((f.tmod 8).toNat)) &&& (1#8)).toNat:Int)) (b:=((1#8).toNat:Int)) (p:=(((g ((f.tdiv 8).toNat)) >>> ((f.tmod 8).toNat)) &&& (1#8))=1#8) rr rr rr rr ih<|aa.fin Q ?_;clear Q
   by_cases n:(((g ((f.tdiv 8).toNat)) >>> ((f.tmod 8).toNat)) &&& (1#8))=1#8
   ·
    replace d:=aA d n
    refine aG (congrArg Value.bool (decide_eq_true n)) ?_
    refine ag 4 3 ?_
    refine aP h 0 rr rr rr bF<|aP h 3 rr rr rr bF ?_
    obtain ⟨ce,ci,d⟩:=d
    refine aw ib (h7 ci h) ?_
    rintro _ eq ⟨rfl,cl⟩
    refine ⟨_,rr,.inr ⟨rr,?_⟩⟩
    refine aY (f':=fun q=>VU .u64 (ce q)) cl 0 rr rr rr rr (fun _ _=>rr) cY rr fun es R=>?_
    simp only [ah,ai,aq,ar] at R
    refine aa.nil ?_
    refine bo ?_
    refine m _ _ ?_;clear m
    refine ag 3 7 ?_
    refine aj rr rr ?_
    obtain ⟨ex,d⟩:=d
    refine d' (a:=f) (b:=1) rr rr rr (by omega)<|ak rr rr<|aa.nil ?_
    exact bG ⟨_,d,(ab (ab (ab (ab (ab au))))),R⟩
   ·
    replace d:=az d n
    refine aO (congrArg Value.bool (decide_eq_false n)) ?_
    refine W.skip ?_
    refine bo ?_
    refine m _ _ ?_;clear m
    refine ag 3 7 ?_
    refine aj rr rr ?_
    obtain ⟨fd,d⟩:=d
    refine d' (a:=f) (b:=1) rr rr rr (by omega)<|ak rr rr<|aa.nil ?_
    exact bG ⟨_,d,(ab (ab (ab (ab (ab au))))),h⟩
  ·
   replace d:=az d l
   refine aO (congrArg Value.bool (decide_eq_false l)) ?_
   refine W.exit (bM (bU (bL ?_)))
   exact ⟨a2,(a3 _ d).symm,(ab (ab au)),bt 4 [0,1] t⟩
 ·
  rintro co fn ⟨s,cs,c1,S⟩
  obtain ⟨co,rfl⟩:=c1.open
  subst cs
  replace d:=a0
  refine I _ _ ?_;clear I
  refine ad fun _ T=>ag 2 1 ?_
  refine aP S 0 rr rr rr bF ?_
  refine aY (f':=fun q=>VU .u64 (K q)) S 1 rr rr rr rr (fun _ _=>rr) cY rr fun f0 u=>?_
  simp only [ah,ai,aq,ar] at u
  refine aa.fin T ?_;clear T
  refine W.ret (aB ?_)
  have U:=St.aF (C:= [_,_]) u [] (by decide)
  simp only [pick,aL,aK,aM,aJ,ah,ai] at U
  subst r
  refine ax.mk (.agg u rr (.cons 1 rr .nil) bF .nil) ?_
  exact ⟨rr,U⟩
theorem zx {B:Nat} {w0:aC} {w:World} {L:List Rg} {c:Nat→BitVec 64} {r:(Nat→BitVec 64)} (a:qf c r) (k:St B w0 (L) w):
  Calls Tryz.prog 110 #[AG [(5,fun q=>VU .u64 (c q))]] w fun e w'=>e= .returned (AG [(5,fun q=>VU .u64 (r q))])∧St B w0 (L) w':=by
 refine W.enter 6 Tryz.func110 rr rr rr ?_
 unfold qf at a
 refine ad fun _ d=>ag 2 0 ?_
 refine bp k rr rr ae.nil fun p s t h3=>?_
 simp only [ao,Nat.zero_add,Nat.reduceAdd,ah,ai] at h3
 refine aa.alloc h3 rr c6 ae.nil fun u v x f=>?_
 simp only [ao,Nat.zero_add,Nat.reduceAdd,ah,ai] at f
 refine aa.fin d ?_;clear d
 refine ad fun _ g=>?_
 refine bd a7 [1,2,4,6] ?_
 have h:=f.drew
 refine aP h 1 rr rr rr bF ?_
 obtain ⟨y,l,a⟩:=a
 refine aw FU (BO l h) ?_
 rintro _ z ⟨rfl,i⟩
 refine ⟨_,rr,.inl ⟨ae.keep (by exact (ae.cons 1 rr ae.nil)) i,?_⟩⟩
 obtain ⟨m,n,a⟩:=a
 refine aw Eo (CA n i) ?_
 rintro _ A ⟨rfl,o⟩
 refine ⟨_,rr,.inr ⟨rr,?_⟩⟩
 refine aY (f':=fun q=>VU .u64 (m q)) o 0 rr rr rr rr (fun _ _=>rr) cY rr fun D b=>?_
 simp only [ah,ai,aq,ar] at b
 refine aa.fin g ?_;clear g
 refine W.ret (aB ?_)
 have j:=St.aF (C:= [_,_]) b [] (by decide)
 simp only [pick,aL,aK,aM,aJ,ah,ai] at j
 subst r
 refine ax.mk (.agg b rr (.cons 0 rr .nil) bF .nil) ?_
 exact ⟨rr,j⟩
theorem BE {B:Nat} {w0:aC} {w:World} {L:List Rg} {J:Nat→BitVec 64} {r:K8} (d:oC J r) (d8:St B w0 (L) w):
  Calls Tryz.prog 111 #[AG [(5,fun q=>VU .u64 (J q))]] w fun e w'=>e= .returned (AG [p8 32 r])∧St B w0 (L) w':=by
 refine W.enter 79 Tryz.func111 rr rr rr ?_
 unfold oC at d
 refine ad fun _ K=>ag 2 0 ?_
 refine bp d8 rr rr ae.nil fun g3 g4 g5 h3=>?_
 simp only [ao,Nat.zero_add,Nat.reduceAdd,ah,ai] at h3
 refine aa.alloc h3 rr c4 ae.nil fun g g6 g7 u=>?_
 simp only [ao,Nat.zero_add,Nat.reduceAdd,ah,ai] at u
 refine aa.fin K ?_;clear K
 refine ad fun _ M=>ag 6 3 ?_
 refine bm gy rr rr<|aP u 1 rr rr rr kM ?_
 obtain ⟨g9,d9,d⟩:=d
 refine aw me (lO d9 u) ?_
 rintro _ he ⟨rfl,el⟩
 refine ⟨_,rr,.inr ⟨rr,?_⟩⟩
 obtain ⟨k,em,d⟩:=d
 refine aw me (lO em el) ?_
 rintro _ hi ⟨rfl,N⟩
 refine ⟨_,rr,.inl ⟨ae.keep (by exact ae.nil) N,?_⟩⟩
 refine aa.alloc N rr mU ae.nil fun i hk hm O=>?_
 simp only [ao,Nat.zero_add,Nat.reduceAdd,ah,ai] at O
 refine aY (f':=fun q=>VU .u64 (k q)) O 0 rr rr rr rr (fun _ _=>rr) wo rr fun hu v=>?_
 simp only [ah,ai,aq,ar] at v
 refine aa.fin M ?_;clear M
 refine ad fun _ P=>ag 5 31 ?_
 refine a1 (j:=0) cP rr rr rr (by omega)<|bk (j:=0) v 0 rr rr rr (by omega) dv<|cD .u64 (X:=(k 0)) (Y:=19#64) rr rr rr<|cJ .u64 (X:=((k 0)+(19#64))) (c:=51) rr rr rr<|ak rr rr<|aa.fin P ?_;clear P
 refine ad fun _ Q=>ad fun _ R=>?_
 refine ag 1 1 ?_
 refine ak rr rr<|aa.fin R ?_;clear R
 obtain ⟨m,eq,es⟩:=d
 refine bq (fun e w=>∃x:BitVec 64,m=x∧aU e [(2,pt g 0),(3,pt i 0),(4,VU .u64 x)]∧St B w0 (⟨some i,0,5,fun q=>VU .u64 (k q),true⟩::g8 g 0 32 (fun _=>0#8)::L) w) ?_ ?_
 ·
  refine W.block ?_
  refine bS eq (fun (S:((BitVec 64)×Nat)) e w=>aU e [(2,pt g 0),(3,pt i 0),(4,VU .u64 S.1),(5,VN S.2)]∧St B w0 (⟨some i,0,5,fun q=>VU .u64 (k q),true⟩::g8 g 0 32 (fun _=>0#8)::L) w) ⟨(ab (ab (ab (ab au)))),bt 3 [0,1] v⟩ ?_
  rintro ⟨y,l⟩ hw d ex fd hH ⟨fn,z⟩
  obtain ⟨fd,rfl⟩:=fn.open
  unfold pq at d
  refine ad fun _ T=>ad fun _ U=>?_
  refine ag 2 3 ?_
  refine aj rr rr<|aR (a:=(((l:Nat):Int):Int)) (b:=(5:Int)) (p:=l < 5) rr rr rr rr bW<|aa.fin U ?_;clear U
  by_cases n:l < 5
  ·
   replace d:=aA d n
   refine aG (congrArg Value.bool (decide_eq_true n)) ?_
   refine W.skip ?_
   refine T _ _ ?_;clear T
   refine ad fun _ V=>?_
   refine W.block ?_
   refine ag 7 127 ?_
   refine aj rr rr<|a1 (j:=l) cP rr rr rr (by omega)<|bk (j:=l) z 0 rr rr rr (by omega) dv<|aj rr rr<|cD .u64 (X:=(k l)) (Y:=y) rr rr rr<|cJ .u64 (X:=((k l)+y)) (c:=51) rr rr rr<|ak rr rr<|aa.nil ?_
   refine bo ?_
   refine V _ _ ?_;clear V
   refine ag 3 7 ?_
   refine aj rr rr<|bu (a:=l) (b:=1) rr rr rr (by omega)<|ak rr rr<|aa.nil ?_
   exact bG ⟨_,d,(ab (ab (ab (ab au)))),z⟩
  ·
   replace d:=az d n
   refine aO (congrArg Value.bool (decide_eq_false n)) ?_
   refine W.exit (bM (bU (bL ?_)))
   exact ⟨y,(ex _ d).symm,(ab (ab (ab au))),z⟩
 ·
  rintro f0 hO ⟨x,f1,f2,Z⟩
  obtain ⟨f0,rfl⟩:=f2.open
  subst f1
  replace d:=es
  refine Q _ _ ?_;clear Q
  refine ad fun _ am=>ag 7 63 ?_
  refine a1 (j:=0) cP rr rr rr (by omega)<|bk (j:=0) Z 0 rr rr rr (by omega) dv<|aj rr rr<|gH .u64 (X:=19#64) (Y:=m) rr rr rr<|cD .u64 (X:=(k 0)) (Y:=((19#64)*m)) rr rr rr<|a1 (j:=0) cP rr rr rr (by omega) ?_
  refine cr (j:=0) (X:=((k 0)+((19#64)*m))) Z 0 rr rr rr rr (by omega) fN rr fun h1 ap=>?_
  simp only [ah,ai,aq,ar] at ap
  refine aa.fin am ?_;clear am
  refine ad fun _ a0=>ad fun _ a2=>?_
  refine ag 1 1 ?_
  refine aj rr rr<|aa.fin a2 ?_;clear a2
  obtain ⟨f,f3,f4⟩:=d
  refine bq (fun e w=>∃A:Nat→BitVec 64,f=A∧aU e [(2,pt g 0),(3,pt i 0)]∧St B w0 (⟨some i,0,5,fun q=>VU .u64 (A q),true⟩::g8 g 0 32 (fun _=>0#8)::L) w) ?_ ?_
  ·
   refine W.block ?_
   refine bS f3 (fun (a3:(Nat×(Nat→BitVec 64))) e w=>aU e [(2,pt g 0),(3,pt i 0),(33,VN a3.1)]∧St B w0 (⟨some i,0,5,fun q=>VU .u64 (a3.2 q),true⟩::g8 g 0 32 (fun _=>0#8)::L) w) ⟨(ab (ab (ab au))),ap⟩ ?_
   rintro ⟨t60,h⟩ id d f5 f6 ii ⟨f7,a4⟩
   obtain ⟨f6,rfl⟩:=f7.open
   unfold lL at d
   refine ad fun _ a5=>ag 1 1 ?_
   refine aR (a:=(((t60:Nat):Int):Int)) (b:=(4:Int)) (p:=t60 < 4) rr rr rr rr bW<|aa.fin a5 ?_;clear a5
   refine ad fun _ a9=>?_
   by_cases o:t60 < 4
   ·
    replace d:=aA d o
    refine aG (congrArg Value.bool (decide_eq_true o)) ?_
    refine W.skip ?_
    refine a9 _ _ ?_;clear a9
    refine ad fun _ be=>?_
    refine W.block ?_
    refine ad fun _ bi=>ag 2 3 ?_
    refine aj rr rr<|ak rr rr<|aa.fin bi ?_;clear bi
    refine ad fun _ bv=>?_
    refine bd a7 [1,3,5,7,9,11,13,15,17,19,20] ?_
    have D:=a4.drew
    refine aj rr rr<|bu (a:=t60) (b:=1) rr rr rr (by omega)<|a1 (j:=(t60+1)) cP rr rr rr (by omega)<|bk (j:=(t60+1)) D 0 rr rr rr (by omega) dv<|aj rr rr<|a1 (j:=t60) cP rr rr rr (by omega)<|bk (j:=t60) D 0 rr rr rr (by omega) dv<|cJ .u64 (X:=(h t60)) (c:=51) rr rr rr ?_
    refine cD .u64 (X:=(h (t60+1))) (Y:=((h t60) >>> 51)) rr rr rr<|a1 (j:=(t60+1)) cP rr rr rr (by omega) ?_
    refine cr (j:=(t60+1)) (X:=((h (t60+1))+((h t60) >>> 51))) D 0 rr rr rr rr (by omega) fN rr fun io E=>?_
    simp only [ah,ai,aq,ar] at E
    refine aa.fin bv ?_;clear bv
    refine ag 6 31 ?_
    refine aj rr rr<|a1 (j:=t60) cP rr rr rr (by omega)<|bk (j:=t60) E 0 rr rr rr (by omega) dv<|dx .u64 (X:=((an h (t60+1) ((h (t60+1))+((h t60) >>> 51))) t60)) (Y:=2251799813685247#64) rr rr rr<|a1 (j:=t60) cP rr rr rr (by omega) ?_
    refine cr (j:=t60) (X:=(((an h (t60+1) ((h (t60+1))+((h t60) >>> 51))) t60) &&& (2251799813685247#64))) E 0 rr rr rr rr (by omega) fN rr fun ip cc=>?_
    simp only [ah,ai,aq,ar] at cc
    refine aa.nil ?_
    refine bo ?_
    refine be _ _ ?_;clear be
    refine ag 2 3 ?_
    refine bu (a:=t60) (b:=1) rr rr rr (by omega)<|aj rr rr<|aa.nil ?_
    exact bG ⟨_,d,(ab (ab (ab au))),cc⟩
   ·
    replace d:=az d o
    refine aO (congrArg Value.bool (decide_eq_false o)) ?_
    refine W.exit (bM (bU (bL ?_)))
    exact ⟨h,(f5 _ d).symm,(ab (ab au)),a4⟩
  ·
   rintro f8 is ⟨A,f9,gc,cd⟩
   obtain ⟨f8,rfl⟩:=gc.open
   subst f9
   replace d:=f4
   refine a0 _ _ ?_;clear a0
   refine ad fun _ ce=>ag 5 15 ?_
   refine a1 (j:=4) cP rr rr rr (by omega)<|bk (j:=4) cd 0 rr rr rr (by omega) dv<|dx .u64 (X:=(f 4)) (Y:=2251799813685247#64) rr rr rr<|a1 (j:=4) cP rr rr rr (by omega) ?_
   refine cr (j:=4) (X:=((f 4) &&& (2251799813685247#64))) cd 0 rr rr rr rr (by omega) fN rr fun it ci=>?_
   simp only [ah,ai,aq,ar] at ci
   refine aa.fin ce ?_;clear ce
   refine ad fun _ cl=>ag 1 0 ?_
   refine aa.alloc ci rr c4 ae.nil fun s i0 i1 co=>?_
   simp only [ao,Nat.zero_add,Nat.reduceAdd,ah,ai] at co
   refine aa.fin cl ?_;clear cl
   refine ad fun _ cs=>ad fun _ c1=>?_
   refine ag 1 1 ?_
   refine aj rr rr<|aa.fin c1 ?_;clear c1
   obtain ⟨c2,gd,ge⟩:=d
   refine bq (fun e w=>∃F:K8,c2=F∧aU e [(2,pt g 0),(7,pt s 0)]∧St B w0 (g8 s 0 32 F::g8 g 0 32 (fun _=>0#8)::L) w) ?_ ?_
   ·
    refine W.block ?_
    refine bS gd (fun (dl:(Nat×K8)) e w=>aU e [(2,pt g 0),(3,pt i 0),(7,pt s 0),(56,VN dl.1)]∧St B w0 (g8 s 0 32 dl.2::⟨some i,0,5,fun q=>VU .u64 ((an f 4 ((f 4) &&& (2251799813685247#64))) q),true⟩::g8 g 0 32 (fun _=>0#8)::L) w) ⟨(ab (ab (ab (ab au)))),co⟩ ?_
    rintro ⟨t96,G⟩ i2 d go gs i3 ⟨gt,ds⟩
    obtain ⟨gs,rfl⟩:=gt.open
    unfold o7 at d
    refine ad fun _ d0=>ag 1 1 ?_
    refine aR (a:=(((t96:Nat):Int):Int)) (b:=(255:Int)) (p:=t96 < 255) rr rr rr rr bW<|aa.fin d0 ?_;clear d0
    refine ad fun _ d1=>?_
    by_cases t:t96 < 255
    ·
     replace d:=aA d t
     refine aG (congrArg Value.bool (decide_eq_true t)) ?_
     refine W.skip ?_
     refine d1 _ _ ?_;clear d1
     refine ad fun _ d2=>?_
     refine W.block ?_
     refine ad fun _ d3=>ag 2 3 ?_
     refine aj rr rr<|ak rr rr<|aa.fin d3 ?_;clear d3
     refine bd a7 [1,3,5,7,9,11,13,15,17,19,21,23,25,27,29,31,33,35,36] ?_
     have H:=ds.drew
     refine aj rr rr<|sg (a:=t96) (b:=8) rr rr rr (by omega)<|a1 (j:=(t96 / 8)) c' rr rr rr (by omega)<|bk (j:=(t96 / 8)) H 0 rr rr rr (by omega) bZ<|aj rr rr<|sg (a:=t96) (b:=51) rr rr rr (by omega)<|a1 (j:=(t96 / 51)) cP rr rr rr (by omega)<|bk (j:=(t96 / 51)) H 1 rr rr rr (by omega) dv ?_
     refine aj rr rr<|iJ (a:=t96) (b:=51) rr rr rr (by omega)<|cJ .u64 (X:=((an f 4 ((f 4) &&& (2251799813685247#64))) (t96 / 51))) (c:=(t96 % 51)) rr rr rr<|dx .u64 (X:=(((an f 4 ((f 4) &&& (2251799813685247#64))) (t96 / 51)) >>> (t96 % 51))) (Y:=1#64) rr rr rr<|dU .u8 (X:=((((an f 4 ((f 4) &&& (2251799813685247#64))) (t96 / 51)) >>> (t96 % 51)) &&& (1#64))) cw p3 rr rr<|aj rr rr<|iJ (a:=t96) (b:=8) rr rr rr (by omega)<|hE .u8 (X:=(((((an f 4 ((f 4) &&& (2251799813685247#64))) (t96 / 51)) >>> (t96 % 51)) &&& (1#64)).setWidth 8)) (c:=(t96 % 8)) rr rr rr ?_
     refine gI .u8 (X:=(G (t96 / 8))) (Y:=((((((an f 4 ((f 4) &&& (2251799813685247#64))) (t96 / 51)) >>> (t96 % 51)) &&& (1#64)).setWidth 8) <<< (t96 % 8))) rr rr rr<|a1 (j:=(t96 / 8)) c' rr rr rr (by omega) ?_
     refine cr (j:=(t96 / 8)) (X:=((G (t96 / 8)) ||| ((((((an f 4 ((f 4) &&& (2251799813685247#64))) (t96 / 51)) >>> (t96 % 51)) &&& (1#64)).setWidth 8) <<< (t96 % 8)))) H 0 rr rr rr rr (by omega) bJ rr fun i4 d4=>?_
     simp only [ah,ai,aq,ar] at d4
     refine aa.nil ?_
     refine bo ?_
     refine d2 _ _ ?_;clear d2
     refine ag 2 3 ?_
     refine bu (a:=t96) (b:=1) rr rr rr (by omega)<|aj rr rr<|aa.nil ?_
     exact bG ⟨_,d,(ab (ab (ab (ab au)))),d4⟩
    ·
     replace d:=az d t
     refine aO (congrArg Value.bool (decide_eq_false t)) ?_
     refine W.exit (bM (bU (bL ?_)))
     exact ⟨G,(go _ d).symm,(ab (ab au)),bt 3 [0,2] ds⟩
   ·
    rintro g0 i5 ⟨F,g1,g2,d5⟩
    obtain ⟨g0,rfl⟩:=g2.open
    subst g1
    replace d:=ge
    refine cs _ _ ?_;clear cs
    refine ad fun _ d6=>ag 2 1 ?_
    refine aP d5 0 rr rr rr ba ?_
    refine aY (f':=fun q=>VU .u8 (c2 q)) d5 1 rr rr rr rr (fun _ _=>rr) bP rr fun i6 I=>?_
    simp only [ah,ai,aq,ar] at I
    refine aa.fin d6 ?_;clear d6
    refine W.ret (aB ?_)
    have d7:=St.aF (C:= [_,_]) I [] (by decide)
    simp only [pick,aL,aK,aM,aJ,ah,ai] at d7
    subst r
    refine ax.mk (.agg I rr (.cons 1 rr .nil) ba .nil) ?_
    exact ⟨rr,d7⟩
end Go.Proofs.YtjclppnbbpnfnaaGreatDoor
