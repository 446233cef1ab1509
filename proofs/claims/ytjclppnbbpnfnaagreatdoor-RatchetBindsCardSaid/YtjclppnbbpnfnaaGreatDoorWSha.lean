/-
 WALKS of the package's functions, printed by this session's own program (auto.py).
-/
import Derived.Test.YtjclppnbbpnfnaaGreatDoorWF
import Derived.Test.YtjclppnbbpnfnaaGreatDoorProg
import Derived.Test.YtjclppnbbpnfnaaGreatDoorEd
import Derived.Test.YtjclppnbbpnfnaaGreatDoorRSha
import Derived.Test.YtjclppnbbpnfnaaGreatDoorEls
import Derived.Test.YtjclppnbbpnfnaaGreatDoorWBits
namespace Go.Proofs.YtjclppnbbpnfnaaGreatDoor
set_option linter.unusedSimpArgs false
set_option linter.unusedVariables false
set_option linter.unusedSectionVars false
set_option maxRecDepth 8000
set_option maxHeartbeats 1000000
open Go Go.LW
theorem wi {B:Nat} {w0:aC} {w:World} {L:List Rg} {iG1:Nat} (b:gT L iG1 1 8 .u32 cH) {r:((Nat→U4)×K8×Nat)} (g:oI r) (c:St B w0 (L) w):
  Calls Tryz.prog 64 #[] w fun e w'=>∃a:Nat,e= .returned (pt a 0)∧St B w0 (⟨some a,0,8,fun q=>VU .u32 (r.1 q),true⟩::g8 a 8 64 r.2.1::g1 a 72 (VN r.2.2)::L) w':=by
 refine W.enter 4 Tryz.func64 rr rr rr ?_
 unfold oI at g
 refine ad fun _ d=>ag 1 1 ?_
 refine cA rr rr<|aa.fin d ?_;clear d
 refine ad fun _ f=>ag 4 11 ?_
 refine aP c (iG1+0) rr rr b mr ?_
 refine dt (ps:= [(8,fun q=>VU .u32 (cH q)),p8 64 (fun _=>0#8),p1 (VN 0)]) FJ (by decide) xw rr rr (.agg [] [(8,fun q=>VU .u32 ((fun _=>0#32) q))] [p8 64 (fun _=>0#8),p1 (VN 0)] [(8,fun q=>VU .u32 (cH q))] rr rr .nil) ?_
 refine bp c rr rr (ae.cons (iG1+0) b ae.nil) fun h i j h3=>?_
 simp only [ao,Nat.zero_add,Nat.reduceAdd,ah,ai] at h3
 refine cA rr rr<|aa.fin f ?_;clear f
 refine W.ret (aB ?_)
 subst r
 refine ax.mk (.fk rr .nil) ?_
 exact ⟨h,rr,h3⟩
theorem hN {B:Nat} {w0:aC} {w:World} {L:List Rg} {b:Int} {c r:U4} (a:fM b c r) (h:St B w0 (L) w):
  Calls Tryz.prog 134 #[.int .i64 b,VU .u32 c] w fun e w'=>e= .returned (VU .u32 r)∧St B w0 (L) w':=by
 refine W.enter 9 Tryz.func134 rr rr rr ?_
 unfold fM at a
 refine ad fun _ d=>ag 1 1 ?_
 refine ak rr rr<|aa.fin d ?_;clear d
 refine ad fun _ f=>ag 5 23 ?_
 refine aj rr rr<|aj rr rr ?_
 obtain ⟨j,a⟩:=a
 refine AY rr rr (by omega) ?_
 obtain ⟨k,i,a⟩:=a
 refine aw BT (Fw i h) ?_
 rintro _ l ⟨rfl,g⟩
 refine ⟨_,rr,.inl ⟨ae.keep (by exact ae.nil) g,?_⟩⟩
 refine ak rr rr<|aa.fin f ?_;clear f
 refine W.ret (aB ?_)
 subst r
 refine ax.mk (.bj rr .nil) ?_
 exact ⟨rr,g⟩
theorem Af {B:Nat} {w0:aC} {w:World} {L:List Rg} {iG2:Nat} (R:gT L iG2 2 64 .u32 bE) {u:Nat→U4} {f:K8} {r:(Nat→U4)} (d:pN u f r) (ip:St B w0 (L) w):
  Calls Tryz.prog 99 #[AG [(8,fun q=>VU .u32 (u q))],AG [p8 64 f]] w fun e w'=>e= .returned (AG [(8,fun q=>VU .u32 (r q))])∧St B w0 (L) w':=by
 refine W.enter 199 Tryz.func99 rr rr rr ?_
 unfold pN at d
 refine ad fun _ c2=>ag 3 0 ?_
 refine bp ip rr rr ae.nil fun h or os dl=>?_
 simp only [ao,Nat.zero_add,Nat.reduceAdd,ah,ai] at dl
 refine bp dl rr rr ae.nil fun ds o' pi d0=>?_
 simp only [ao,Nat.zero_add,Nat.reduceAdd,ah,ai] at d0
 refine aa.alloc d0 rr u7 ae.nil fun i pl pm d1=>?_
 simp only [ao,Nat.zero_add,Nat.reduceAdd,ah,ai] at d1
 refine aa.fin c2 ?_;clear c2
 refine ad fun _ d2=>ag 1 0 ?_
 refine aa.alloc d1 rr BM ae.nil fun m pp pu d3=>?_
 simp only [ao,Nat.zero_add,Nat.reduceAdd,ah,ai] at d3
 refine aa.fin d2 ?_;clear d2
 refine ad fun _ d4=>ad fun _ d5=>?_
 refine ag 1 1 ?_
 refine aj rr rr<|aa.fin d5 ?_;clear d5
 obtain ⟨is,it,i0⟩:=d
 refine bq (fun e w=>∃ap:Nat→U4,is=ap∧aU e [(2,pt h 0),(4,pt i 0),(5,pt m 0)]∧St B w0 (⟨some m,0,64,fun q=>VU .u32 (ap q),true⟩::⟨some i,0,8,fun q=>VU .u32 ((fun _=>0#32) q),true⟩::⟨some h,0,8,fun q=>VU .u32 (u q),true⟩::L) w) ?_ ?_
 ·
  refine W.block ?_
  refine bS it (fun (d6:(Nat×(Nat→U4))) e w=>aU e [(2,pt h 0),(3,pt ds 0),(4,pt i 0),(5,pt m 0),(23,VN d6.1)]∧St B w0 (⟨some m,0,64,fun q=>VU .u32 (d6.2 q),true⟩::⟨some i,0,8,fun q=>VU .u32 ((fun _=>0#32) q),true⟩::g8 ds 0 64 f::⟨some h,0,8,fun q=>VU .u32 (u q),true⟩::L) w) ⟨(ab (ab (ab (ab (ab au))))),d3⟩ ?_
  rintro ⟨t26,i1⟩ qr d i2 i3 rc ⟨i4,h30⟩
  obtain ⟨i3,rfl⟩:=i4.open
  unfold pr at d
  refine ad fun _ d7=>ag 1 1 ?_
  refine aR (a:=(((t26:Nat):Int):Int)) (b:=(16:Int)) (p:=t26 < 16) rr rr rr rr bW<|aa.fin d7 ?_;clear d7
  refine ad fun _ d8=>?_
  by_cases S:t26 < 16
  ·
   replace d:=aA d S
   refine aG (congrArg Value.bool (decide_eq_true S)) ?_
   refine W.skip ?_
   refine d8 _ _ ?_;clear d8
   refine ad fun _ d9=>?_
   refine W.block ?_
   refine ad fun _ el=>ag 2 3 ?_
   refine aj rr rr<|ak rr rr<|aa.fin el ?_;clear el
   refine bd a7 [1,3,5,7,9,11,13,15,17,19,21,23,25,27,29,31,33,35,37,39,41,43,45,47,49,51,53,55,57,59,61,62] ?_
   have F:=h30.drew
   refine aj rr rr<|aj rr rr<|fr (a:=4) (b:=t26) rr rr rr (by omega)<|a1 (j:=(4*t26)) dX rr rr rr (by omega)<|bk (j:=(4*t26)) F 2 rr rr rr (by omega) bZ<|dU .u32 (X:=(f (4*t26))) jF jl rr rr<|hE .u32 (X:=((f (4*t26)).setWidth 32)) (c:=24) rr rr rr<|aj rr rr ?_
   refine fr (a:=4) (b:=t26) rr rr rr (by omega)<|bu (a:=(4*t26)) (b:=1) rr rr rr (by omega)<|a1 (j:=((4*t26)+1)) dX rr rr rr (by omega)<|bk (j:=((4*t26)+1)) F 2 rr rr rr (by omega) bZ<|dU .u32 (X:=(f ((4*t26)+1))) jF jl rr rr<|hE .u32 (X:=((f ((4*t26)+1)).setWidth 32)) (c:=16) rr rr rr<|gI .u32 (X:=(((f (4*t26)).setWidth 32) <<< 24)) (Y:=(((f ((4*t26)+1)).setWidth 32) <<< 16)) rr rr rr<|aj rr rr ?_
   refine fr (a:=4) (b:=t26) rr rr rr (by omega)<|bu (a:=(4*t26)) (b:=2) rr rr rr (by omega)<|a1 (j:=((4*t26)+2)) dX rr rr rr (by omega)<|bk (j:=((4*t26)+2)) F 2 rr rr rr (by omega) bZ<|dU .u32 (X:=(f ((4*t26)+2))) jF jl rr rr<|hE .u32 (X:=((f ((4*t26)+2)).setWidth 32)) (c:=8) rr rr rr<|gI .u32 (X:=((((f (4*t26)).setWidth 32) <<< 24) ||| (((f ((4*t26)+1)).setWidth 32) <<< 16))) (Y:=(((f ((4*t26)+2)).setWidth 32) <<< 8)) rr rr rr<|aj rr rr ?_
   refine fr (a:=4) (b:=t26) rr rr rr (by omega)<|bu (a:=(4*t26)) (b:=3) rr rr rr (by omega)<|a1 (j:=((4*t26)+3)) dX rr rr rr (by omega)<|bk (j:=((4*t26)+3)) F 2 rr rr rr (by omega) bZ<|dU .u32 (X:=(f ((4*t26)+3))) jF jl rr rr<|gI .u32 (X:=(((((f (4*t26)).setWidth 32) <<< 24) ||| (((f ((4*t26)+1)).setWidth 32) <<< 16)) ||| (((f ((4*t26)+2)).setWidth 32) <<< 8))) (Y:=((f ((4*t26)+3)).setWidth 32)) rr rr rr<|a1 (j:=t26) ji rr rr rr (by omega) ?_
   refine cr (j:=t26) (X:=((((((f (4*t26)).setWidth 32) <<< 24) ||| (((f ((4*t26)+1)).setWidth 32) <<< 16)) ||| (((f ((4*t26)+2)).setWidth 32) <<< 8)) ||| ((f ((4*t26)+3)).setWidth 32))) F 0 rr rr rr rr (by omega) fC rr fun rd em=>?_
   simp only [ah,ai,aq,ar] at em
   refine aa.nil ?_
   refine bo ?_
   refine d9 _ _ ?_;clear d9
   refine ag 2 3 ?_
   refine bu (a:=t26) (b:=1) rr rr rr (by omega)<|aj rr rr<|aa.nil ?_
   exact bG ⟨_,d,(ab (ab (ab (ab (ab au))))),em⟩
  ·
   replace d:=az d S
   refine aO (congrArg Value.bool (decide_eq_false S)) ?_
   refine W.exit (bM (bU (bL ?_)))
   exact ⟨i1,(i2 _ d).symm,(ab (ab (ab au))),bt 4 [0,1,3] h30⟩
 ·
  rintro i5 rg ⟨ap,i6,i7,i8⟩
  obtain ⟨i5,rfl⟩:=i7.open
  subst i6
  replace d:=i0
  refine d4 _ _ ?_;clear d4
  refine ad fun _ eq=>ad fun _ es=>?_
  refine ag 1 1 ?_
  refine ak rr rr<|aa.fin es ?_;clear es
  obtain ⟨G,i9,jd⟩:=d
  refine bq (fun e w=>∃a0:Nat→U4,G=a0∧aU e [(2,pt h 0),(4,pt i 0),(5,pt m 0)]∧St B w0 (⟨some m,0,64,fun q=>VU .u32 (a0 q),true⟩::⟨some i,0,8,fun q=>VU .u32 ((fun _=>0#32) q),true⟩::⟨some h,0,8,fun q=>VU .u32 (u q),true⟩::L) w) ?_ ?_
  ·
   refine W.block ?_
   refine bS i9 (fun (ex:(Nat×(Nat→U4))) e w=>aU e [(2,pt h 0),(4,pt i 0),(5,pt m 0),(7,VN ex.1)]∧St B w0 (⟨some m,0,64,fun q=>VU .u32 (ex.2 q),true⟩::⟨some i,0,8,fun q=>VU .u32 ((fun _=>0#32) q),true⟩::⟨some h,0,8,fun q=>VU .u32 (u q),true⟩::L) w) ⟨(ab (ab (ab (ab au)))),i8⟩ ?_
   rintro ⟨t87,g⟩ ro d jp kk rs ⟨kw,fd⟩
   obtain ⟨kk,rfl⟩:=kw.open
   unfold nF at d
   refine ad fun _ fn=>ad fun _ f0=>?_
   refine ag 2 3 ?_
   refine aj rr rr<|aR (a:=(((t87:Nat):Int):Int)) (b:=(64:Int)) (p:=t87 < 64) rr rr rr rr bW<|aa.fin f0 ?_;clear f0
   by_cases T:t87 < 64
   ·
    replace d:=aA d T
    refine aG (congrArg Value.bool (decide_eq_true T)) ?_
    refine W.skip ?_
    refine fn _ _ ?_;clear fn
    refine ad fun _ f1=>?_
    refine W.block ?_
    refine ad fun _ f2=>?_
    refine bd a7 [1,3,5,7,9,11,13,15,17,19] ?_
    have a2:=fd.drew
    refine aj rr rr<|d' (a:=((t87:Nat):Int)) (b:=15) rr rr rr (by omega) ?_
    obtain ⟨lc,d⟩:=d
    refine a1 (j:=(((t87:Nat):Int) - 15).toNat) ji rr rr (congrArg (Value.int .i64) (Int.toNat_of_nonneg lc.1).symm) (by omega)<|bk (j:=(((t87:Nat):Int) - 15).toNat) a2 0 rr rr rr (by omega) bf<|aj rr rr<|d' (a:=((t87:Nat):Int)) (b:=2) rr rr rr (by omega) ?_
    obtain ⟨ld,d⟩:=d
    refine a1 (j:=(((t87:Nat):Int) - 2).toNat) ji rr rr (congrArg (Value.int .i64) (Int.toNat_of_nonneg ld.1).symm) (by omega)<|bk (j:=(((t87:Nat):Int) - 2).toNat) a2 0 rr rr rr (by omega) bf<|ak rr rr<|ak rr rr<|aa.fin f2 ?_;clear f2
    refine bd a7 [1,3,7,13,15,19,21,23,25,29,33,39,41,47,49,51,53,4,8,11,17,27,30,34,37,43,45,55,57,58] ?_
    have a3:=a2.drew
    refine aj rr rr<|aj rr rr<|aj rr rr<|aj rr rr<|cJ .u32 (X:=(g ((((t87:Nat):Int) - 2).toNat))) (c:=10) rr rr rr<|aj rr rr<|d' (a:=((t87:Nat):Int)) (b:=7) rr rr rr (by omega) ?_
    obtain ⟨le,d⟩:=d
    refine a1 (j:=(((t87:Nat):Int) - 7).toNat) ji rr rr (congrArg (Value.int .i64) (Int.toNat_of_nonneg le.1).symm) (by omega)<|bk (j:=(((t87:Nat):Int) - 7).toNat) a3 0 rr rr rr (by omega) bf<|aj rr rr<|aj rr rr<|aj rr rr<|cJ .u32 (X:=(g ((((t87:Nat):Int) - 15).toNat))) (c:=3) rr rr rr<|aj rr rr<|d' (a:=((t87:Nat):Int)) (b:=16) rr rr rr (by omega) ?_
    obtain ⟨li,d⟩:=d
    refine a1 (j:=(((t87:Nat):Int) - 16).toNat) ji rr rr (congrArg (Value.int .i64) (Int.toNat_of_nonneg li.1).symm) (by omega)<|bk (j:=(((t87:Nat):Int) - 16).toNat) a3 0 rr rr rr (by omega) bf ?_
    obtain ⟨D,lm,d⟩:=d
    refine aw hL (hN lm a3) ?_
    rintro _ rt ⟨rfl,f3⟩
    refine ⟨_,rr,.inl ⟨ae.keep (by exact (ae.cons 0 rr (ae.cons 0 rr ae.nil))) f3,?_⟩⟩
    obtain ⟨E,lo,d⟩:=d
    refine aw hL (hN lo f3) ?_
    rintro _ rx ⟨rfl,f4⟩
    refine ⟨_,rr,.inl ⟨ae.keep (by exact (ae.cons 0 rr (ae.cons 0 rr ae.nil))) f4,?_⟩⟩
    refine cp .u32 (X:=D) (Y:=E) rr rr rr<|cp .u32 (X:=(D ^^^ E)) (Y:=((g ((((t87:Nat):Int) - 2).toNat)) >>> 10)) rr rr rr<|cD .u32 (X:=((D ^^^ E) ^^^ ((g ((((t87:Nat):Int) - 2).toNat)) >>> 10))) (Y:=(g ((((t87:Nat):Int) - 7).toNat))) rr rr rr ?_
    obtain ⟨H,ls,d⟩:=d
    refine aw hL (hN ls f4) ?_
    rintro _ sp ⟨rfl,f5⟩
    refine ⟨_,rr,.inl ⟨ae.keep (by exact (ae.cons 0 rr (ae.cons 0 rr ae.nil))) f5,?_⟩⟩
    obtain ⟨I,lt,d⟩:=d
    refine aw hL (hN lt f5) ?_
    rintro _ st ⟨rfl,f6⟩
    refine ⟨_,rr,.inl ⟨ae.keep (by exact (ae.cons 0 rr (ae.cons 0 rr ae.nil))) f6,?_⟩⟩
    refine cp .u32 (X:=H) (Y:=I) rr rr rr<|cp .u32 (X:=(H ^^^ I)) (Y:=((g ((((t87:Nat):Int) - 15).toNat)) >>> 3)) rr rr rr<|cD .u32 (X:=(((D ^^^ E) ^^^ ((g ((((t87:Nat):Int) - 2).toNat)) >>> 10))+(g ((((t87:Nat):Int) - 7).toNat)))) (Y:=((H ^^^ I) ^^^ ((g ((((t87:Nat):Int) - 15).toNat)) >>> 3))) rr rr rr<|cD .u32 (X:=((((D ^^^ E) ^^^ ((g ((((t87:Nat):Int) - 2).toNat)) >>> 10))+(g ((((t87:Nat):Int) - 7).toNat)))+((H ^^^ I) ^^^ ((g ((((t87:Nat):Int) - 15).toNat)) >>> 3)))) (Y:=(g ((((t87:Nat):Int) - 16).toNat))) rr rr rr<|a1 (j:=t87) ji rr rr rr (by omega) ?_
    refine cr (j:=t87) (X:=(((((D ^^^ E) ^^^ ((g ((((t87:Nat):Int) - 2).toNat)) >>> 10))+(g ((((t87:Nat):Int) - 7).toNat)))+((H ^^^ I) ^^^ ((g ((((t87:Nat):Int) - 15).toNat)) >>> 3)))+(g ((((t87:Nat):Int) - 16).toNat)))) f6 0 rr rr rr rr (by omega) fC rr fun sz f7=>?_
    simp only [ah,ai,aq,ar] at f7
    refine aa.nil ?_
    refine bo ?_
    refine f1 _ _ ?_;clear f1
    refine ag 3 7 ?_
    refine aj rr rr<|bu (a:=t87) (b:=1) rr rr rr (by omega)<|ak rr rr<|aa.nil ?_
    exact bG ⟨_,d,(ab (ab (ab (ab au)))),f7⟩
   ·
    replace d:=az d T
    refine aO (congrArg Value.bool (decide_eq_false T)) ?_
    refine W.exit (bM (bU (bL ?_)))
    exact ⟨g,(jp _ d).symm,(ab (ab (ab au))),fd⟩
  ·
   rintro lw s1 ⟨a0,md,mp,ms⟩
   obtain ⟨lw,rfl⟩:=mp.open
   subst md
   replace d:=jd
   refine eq _ _ ?_;clear eq
   refine ad fun _ f8=>?_
   refine bd a7 [1,3,5,7,9,11,13,15,17,19,21,23,25,27,29,31,33,35,37,39,41,43,45,47] ?_
   have s:=ms.drew
   refine a1 (j:=0) gq rr rr rr (by omega)<|bk (j:=0) s 2 rr rr rr (by omega) bf<|a1 (j:=1) gq rr rr rr (by omega)<|bk (j:=1) s 2 rr rr rr (by omega) bf<|a1 (j:=2) gq rr rr rr (by omega)<|bk (j:=2) s 2 rr rr rr (by omega) bf<|a1 (j:=3) gq rr rr rr (by omega)<|bk (j:=3) s 2 rr rr rr (by omega) bf ?_
   refine a1 (j:=4) gq rr rr rr (by omega)<|bk (j:=4) s 2 rr rr rr (by omega) bf<|a1 (j:=5) gq rr rr rr (by omega)<|bk (j:=5) s 2 rr rr rr (by omega) bf<|a1 (j:=6) gq rr rr rr (by omega)<|bk (j:=6) s 2 rr rr rr (by omega) bf<|a1 (j:=7) gq rr rr rr (by omega)<|bk (j:=7) s 2 rr rr rr (by omega) bf ?_
   refine ak rr rr<|ak rr rr<|ak rr rr<|ak rr rr<|ak rr rr<|ak rr rr<|ak rr rr<|ak rr rr ?_
   refine aa.fin f8 ?_;clear f8
   refine ad fun _ f9=>ad fun _ gc=>?_
   refine ag 1 1 ?_
   refine aj rr rr<|aa.fin gc ?_;clear gc
   obtain ⟨J,K,M,N,O,f195,P,Q,mt,m0⟩:=d
   refine bq (fun e w=>∃a4 a5 a9 be bi bv cc cd:U4,(J,K,M,N,O,f195,P,Q)=(a4,a5,a9,be,bi,bv,cc,cd)∧aU e [(2,pt h 0),(4,pt i 0),(10,VU .u32 a4),(11,VU .u32 a5),(12,VU .u32 a9),(13,VU .u32 be),(14,VU .u32 bi),(15,VU .u32 bv),(16,VU .u32 cc),(17,VU .u32 cd)]∧St B w0 (⟨some i,0,8,fun q=>VU .u32 ((fun _=>0#32) q),true⟩::⟨some h,0,8,fun q=>VU .u32 (u q),true⟩::L) w) ?_ ?_
   ·
    refine W.block ?_
    refine bS mt (fun (t:(U4×U4×U4×U4×U4×U4×U4×U4×Nat)) e w=>aU e [(2,pt h 0),(4,pt i 0),(5,pt m 0),(10,VU .u32 t.1),(11,VU .u32 t.2.1),(12,VU .u32 t.2.2.1),(13,VU .u32 t.2.2.2.1),(14,VU .u32 t.2.2.2.2.1),(15,VU .u32 t.2.2.2.2.2.1),(16,VU .u32 t.2.2.2.2.2.2.1),(17,VU .u32 t.2.2.2.2.2.2.2.1),(115,VN t.2.2.2.2.2.2.2.2)]∧St B w0 (⟨some m,0,64,fun q=>VU .u32 (G q),true⟩::⟨some i,0,8,fun q=>VU .u32 ((fun _=>0#32) q),true⟩::⟨some h,0,8,fun q=>VU .u32 (u q),true⟩::L) w) ⟨(ab (ab (ab (ab (ab (ab (ab (ab (ab (ab (ab (ab au)))))))))))),s⟩ ?_
    rintro ⟨l,n,o,gd,k,f186,v,z,t189⟩ s2 d m1 m2 s3 ⟨m3,ge⟩
    obtain ⟨m2,rfl⟩:=m3.open
    unfold pv at d
    refine ad fun _ go=>ag 1 1 ?_
    refine aR (a:=(((t189:Nat):Int):Int)) (b:=(64:Int)) (p:=t189 < 64) rr rr rr rr bW<|aa.fin go ?_;clear go
    refine ad fun _ gs=>?_
    by_cases U:t189 < 64
    ·
     replace d:=aA d U
     refine aG (congrArg Value.bool (decide_eq_true U)) ?_
     refine W.skip ?_
     refine gs _ _ ?_;clear gs
     refine ad fun _ gt=>?_
     refine W.block ?_
     refine ad fun _ g0=>ag 2 3 ?_
     refine aj rr rr<|ak rr rr<|aa.fin g0 ?_;clear g0
     refine ad fun _ g1=>?_
     refine bd a7 [1,3,7,13,21,23,25,27,29,31,33,35,39,41,43,47,49,51,4,8,11,14,17,19,37,45,53,55] ?_
     have ce:=ge.drew
     refine aj rr rr<|aj rr rr<|aj rr rr<|aj rr rr<|aj rr rr<|aj rr rr<|dx .u32 (X:=k) (Y:=f186) rr rr rr<|aj rr rr ?_
     refine AD .u32 rr rr<|aj rr rr<|dx .u32 (X:=(~~~k)) (Y:=v) rr rr rr<|cp .u32 (X:=(k &&& f186)) (Y:=((~~~k) &&& v)) rr rr rr<|aj rr rr<|a1 (j:=t189) ji rr rr rr (by omega)<|bk (j:=t189) ce (iG2+3) rr rr R (by omega) bf<|aj rr rr ?_
     refine a1 (j:=t189) ji rr rr rr (by omega)<|bk (j:=t189) ce 0 rr rr rr (by omega) bf ?_
     obtain ⟨x,m4,d⟩:=d
     refine aw hL (hN m4 ce) ?_
     rintro _ s4 ⟨rfl,g2⟩
     refine ⟨_,rr,.inl ⟨ae.keep (by exact (ae.cons 0 rr (ae.cons (iG2+3) R ae.nil))) g2,?_⟩⟩
     obtain ⟨y,m5,d⟩:=d
     refine aw hL (hN m5 g2) ?_
     rintro _ s5 ⟨rfl,g3⟩
     refine ⟨_,rr,.inl ⟨ae.keep (by exact (ae.cons 0 rr (ae.cons (iG2+3) R ae.nil))) g3,?_⟩⟩
     refine cp .u32 (X:=x) (Y:=y) rr rr rr ?_
     obtain ⟨A,m6,d⟩:=d
     refine aw hL (hN m6 g3) ?_
     rintro _ s6 ⟨rfl,g4⟩
     refine ⟨_,rr,.inl ⟨ae.keep (by exact (ae.cons 0 rr (ae.cons (iG2+3) R ae.nil))) g4,?_⟩⟩
     refine cp .u32 (X:=(x ^^^ y)) (Y:=A) rr rr rr<|cD .u32 (X:=z) (Y:=((x ^^^ y) ^^^ A)) rr rr rr<|cD .u32 (X:=(z+((x ^^^ y) ^^^ A))) (Y:=((k &&& f186) ^^^ ((~~~k) &&& v))) rr rr rr<|cD .u32 (X:=((z+((x ^^^ y) ^^^ A))+((k &&& f186) ^^^ ((~~~k) &&& v)))) (Y:=(bE t189)) rr rr rr<|cD .u32 (X:=(((z+((x ^^^ y) ^^^ A))+((k &&& f186) ^^^ ((~~~k) &&& v)))+(bE t189))) (Y:=(G t189)) rr rr rr<|ak rr rr<|aa.fin g1 ?_;clear g1
     refine ad fun _ g5=>ag 21 2097077 ?_
     refine aj rr rr ?_
     obtain ⟨V,m7,d⟩:=d
     refine aw hL (hN m7 g4) ?_
     rintro _ s7 ⟨rfl,g6⟩
     refine ⟨_,rr,.inl ⟨ae.keep (by exact ae.nil) g6,?_⟩⟩
     refine aj rr rr ?_
     obtain ⟨Z,m8,d⟩:=d
     refine aw hL (hN m8 g6) ?_
     rintro _ s8 ⟨rfl,g7⟩
     refine ⟨_,rr,.inl ⟨ae.keep (by exact ae.nil) g7,?_⟩⟩
     refine cp .u32 (X:=V) (Y:=Z) rr rr rr<|aj rr rr ?_
     obtain ⟨ci,m9,d⟩:=d
     refine aw hL (hN m9 g7) ?_
     rintro _ s9 ⟨rfl,g9⟩
     refine ⟨_,rr,.inl ⟨ae.keep (by exact ae.nil) g9,?_⟩⟩
     refine cp .u32 (X:=(V ^^^ Z)) (Y:=ci) rr rr rr<|aj rr rr<|aj rr rr<|dx .u32 (X:=l) (Y:=n) rr rr rr<|aj rr rr<|aj rr rr<|dx .u32 (X:=l) (Y:=o) rr rr rr<|cp .u32 (X:=(l &&& n)) (Y:=(l &&& o)) rr rr rr ?_
     refine aj rr rr<|aj rr rr<|dx .u32 (X:=n) (Y:=o) rr rr rr<|cp .u32 (X:=((l &&& n) ^^^ (l &&& o))) (Y:=(n &&& o)) rr rr rr<|cD .u32 (X:=((V ^^^ Z) ^^^ ci)) (Y:=(((l &&& n) ^^^ (l &&& o)) ^^^ (n &&& o))) rr rr rr<|ak rr rr<|aa.fin g5 ?_;clear g5
     refine ag 20 1048575 ?_
     refine aj rr rr<|aj rr rr<|cD .u32 (X:=((((z+((x ^^^ y) ^^^ A))+((k &&& f186) ^^^ ((~~~k) &&& v)))+(bE t189))+(G t189))) (Y:=(((V ^^^ Z) ^^^ ci)+(((l &&& n) ^^^ (l &&& o)) ^^^ (n &&& o)))) rr rr rr<|aj rr rr<|aj rr rr<|aj rr rr<|aj rr rr<|aj rr rr ?_
     refine cD .u32 (X:=gd) (Y:=((((z+((x ^^^ y) ^^^ A))+((k &&& f186) ^^^ ((~~~k) &&& v)))+(bE t189))+(G t189))) rr rr rr<|aj rr rr<|aj rr rr<|aj rr rr<|ak rr rr<|ak rr rr<|ak rr rr<|ak rr rr ?_
     refine ak rr rr<|ak rr rr<|ak rr rr<|ak rr rr<|aa.nil ?_
     refine bo ?_
     refine gt _ _ ?_;clear gt
     refine ag 2 3 ?_
     refine bu (a:=t189) (b:=1) rr rr rr (by omega)<|aj rr rr<|aa.nil ?_
     exact bG ⟨_,d,(ab (ab (ab (ab (ab (ab (ab (ab (ab (ab (ab (ab au)))))))))))),g9⟩
    ·
     replace d:=az d U
     refine aO (congrArg Value.bool (decide_eq_false U)) ?_
     refine W.exit (bM (bU (bL ?_)))
     exact ⟨l,n,o,gd,k,f186,v,z,(m1 _ d).symm,(ab (ab (ab (ab (ab (ab (ab (ab (ab (ab au)))))))))),bt 3 [1,2] ge⟩
   ·
    rintro m' s' ⟨a4,a5,a9,be,bi,bv,cc,cd,ne,nl,no⟩
    obtain ⟨m',rfl⟩:=nl.open
    cases ne
    replace d:=m0
    refine f9 _ _ ?_;clear f9
    refine ad fun _ he=>ad fun _ hi=>?_
    refine ag 10 1023 ?_
    refine aj rr rr<|aj rr rr<|aj rr rr<|aj rr rr<|aj rr rr<|aj rr rr<|aj rr rr<|aj rr rr ?_
    refine gu (ps:= [(8,fun q=>VU .u32 ((lit [J,K,M,N,O,f195,P,Q]) q))]) gq u7 rr rr rr ?_
    refine aj rr rr<|aa.fin hi ?_;clear hi
    obtain ⟨hk,n5,n6⟩:=d
    refine bq (fun e w=>∃cl:Nat→U4,hk=cl∧aU e [(2,pt h 0),(4,pt i 0)]∧St B w0 (⟨some i,0,8,fun q=>VU .u32 ((fun _=>0#32) q),true⟩::⟨some h,0,8,fun q=>VU .u32 (cl q),true⟩::L) w) ?_ ?_
    ·
     refine W.block ?_
     refine bS n5 (fun (hm:(Nat×(Nat→U4))) e w=>aU e [(2,pt h 0),(4,pt i 0),(186,AG [(8,fun q=>VU .u32 ((lit [J,K,M,N,O,f195,P,Q]) q))]),(187,VN hm.1)]∧St B w0 (⟨some i,0,8,fun q=>VU .u32 ((fun _=>0#32) q),true⟩::⟨some h,0,8,fun q=>VU .u32 (hm.2 q),true⟩::L) w) ⟨(ab (ab (ab (ab au)))),no⟩ ?_
     rintro ⟨t243,co⟩ to d n7 n8 ty ⟨ok,cs⟩
     obtain ⟨n8,rfl⟩:=ok.open
     unfold oV at d
     refine ad fun _ hu=>ag 1 1 ?_
     refine aR (a:=(((t243:Nat):Int):Int)) (b:=(8:Int)) (p:=t243 < 8) rr rr rr rr bW<|aa.fin hu ?_;clear hu
     refine ad fun _ hw=>?_
     by_cases am:t243 < 8
     ·
      replace d:=aA d am
      refine aG (congrArg Value.bool (decide_eq_true am)) ?_
      refine W.skip ?_
      refine hw _ _ ?_;clear hw
      refine ad fun _ hH=>?_
      refine W.block ?_
      refine ad fun _ hO=>ag 4 15 ?_
      refine aj rr rr<|rz (j:=t243) xH fC bf rr rr rr (by omega) (by decide)<|ak rr rr<|ak rr rr<|aa.fin hO ?_;clear hO
      refine ag 7 63 ?_
      refine aj rr rr<|a1 (j:=t243) gq rr rr rr (by omega)<|bk (j:=t243) cs 1 rr rr rr (by omega) bf<|aj rr rr<|cD .u32 (X:=(co t243)) (Y:=((lit [J,K,M,N,O,f195,P,Q]) t243)) rr rr rr<|a1 (j:=t243) gq rr rr rr (by omega) ?_
      refine cr (j:=t243) (X:=((co t243)+((lit [J,K,M,N,O,f195,P,Q]) t243))) cs 1 rr rr rr rr (by omega) fC rr fun t0 h1=>?_
      simp only [ah,ai,aq,ar] at h1
      refine aa.nil ?_
      refine bo ?_
      refine hH _ _ ?_;clear hH
      refine ag 2 3 ?_
      refine bu (a:=t243) (b:=1) rr rr rr (by omega)<|aj rr rr<|aa.nil ?_
      exact bG ⟨_,d,(ab (ab (ab (ab au)))),h1⟩
     ·
      replace d:=az d am
      refine aO (congrArg Value.bool (decide_eq_false am)) ?_
      refine W.exit (bM (bU (bL ?_)))
      exact ⟨co,(n7 _ d).symm,(ab (ab au)),cs⟩
    ·
     rintro ol t1 ⟨cl,on,op,id⟩
     obtain ⟨ol,rfl⟩:=op.open
     subst on
     replace d:=n6
     refine he _ _ ?_;clear he
     refine ad fun _ ii=>ag 2 1 ?_
     refine aP id 1 rr rr rr mr ?_
     refine aY (f':=fun q=>VU .u32 (hk q)) id 0 rr rr rr rr (fun _ _=>rr) vr rr fun t2 c1=>?_
     simp only [ah,ai,aq,ar] at c1
     refine aa.fin ii ?_;clear ii
     refine W.ret (aB ?_)
     have io:=St.aF (C:= [_,_]) c1 [] (by decide)
     simp only [pick,aL,aK,aM,aJ,ah,ai] at io
     subst r
     refine ax.mk (.agg c1 rr (.cons 0 rr .nil) mr .nil) ?_
     exact ⟨rr,io⟩
theorem kJ {B:Nat} {w0:aC} {w:World} {L:List Rg} {iG2:Nat} (V:gT L iG2 2 64 .u32 bE) {g:Nat} {A:Nat→U4} {C:K8} {D:Int} {E:List af} {n:Option Addr} {F o G:Nat} (H:Bx L G n F o E) {r:((Nat→U4)×K8×Int)} (d:im A C D E r) (Y:St B w0 (⟨some g,0,8,fun q=>VU .u32 (A q),true⟩::g8 g 8 64 C::g1 g 72 (.int .i64 D)::L) w):
  Calls Tryz.prog 65 #[pt g 0,.slice n F o] w fun e w'=>e= .returned (.tuple #[])∧St B w0 (⟨some g,0,8,fun q=>VU .u32 (r.1 q),true⟩::g8 g 8 64 r.2.1::g1 g 72 (.int .i64 r.2.2)::L) w':=by
 refine W.enter 48 Tryz.func65 rr rr rr ?_
 unfold im at d
 have Z:=H.hl;subst Z
 obtain ⟨am,ap,a0,a2,a3⟩:=d
 refine bq (fun e w=>∃s:Nat→U4,∃t:K8,∃u:Int,(am,ap,a0)=(s,t,u)∧aU e []∧St B w0 (⟨some g,0,8,fun q=>VU .u32 (s q),true⟩::g8 g 8 64 t::g1 g 72 (.int .i64 u)::L) w) ?_ ?_
 ·
  refine W.block ?_
  refine bS a2 (fun (i:((List af)×(Nat→U4)×K8×Int)) e w=>∃v:Option Addr,∃x:Nat,aU e [(0,pt g 0),(1,.slice v i.1.length x)]∧St B w0 (⟨some g,0,8,fun q=>VU .u32 (i.2.1 q),true⟩::g8 g 8 64 i.2.2.1::g1 g 72 (.int .i64 i.2.2.2)::L) w∧Bx L G v i.1.length x i.1) ⟨n,o,(ab (ab au)),Y,H⟩ ?_
  rintro ⟨h,a4,a5,f⟩ c2 d a9 be dl ⟨v,x,bi,I,J⟩
  obtain ⟨be,rfl⟩:=bi.open
  unfold oR at d
  refine ad fun _ K=>ad fun _ M=>?_
  refine ag 3 7 ?_
  refine aE rr rr<|aa.len cB rr rr<|aR (a:=(((h.length:Nat):Int):Int)) (b:=(0:Int)) (p:=0 < h.length) rr rr rr rr dL<|aa.fin M ?_;clear M
  by_cases j:0 < h.length
  ·
   replace d:=aA d j
   refine aG (congrArg Value.bool (decide_eq_true j)) ?_
   refine W.skip ?_
   refine K _ _ ?_;clear K
   refine W.block ?_
   refine ad fun _ N=>?_
   refine bd a7 [1,3,5,7,9,11,13,15,17,19,20,23] ?_
   have O:=I.drew
   refine aD rr rr<|aa.nilCheck rr rr<|aa.fieldAddr 8 xJ rr rr<|aD rr rr<|aa.nilCheck rr rr<|aa.fieldAddr 72 kg rr rr<|aX O 2 rr rr rr (by omega) ed ?_
   have ds:=jw f (c:=64) (by decide)
   refine iP (a:=f) (b:=64) rr rr rr (by omega) ?_
   obtain ⟨bv,d⟩:=d
   obtain ⟨d0,d⟩:=d
   refine c8 (lo:=(f.tmod 64).toNat) (hi:=64) (m:=(64 - (f.tmod 64).toNat)) (c:=(64 - (f.tmod 64).toNat)) (o':=8+((f.tmod 64).toNat)) dX rr rr ⟨_,congrArg (Value.int .i64) (Int.toNat_of_nonneg bv).symm⟩ rr (by omega) (by omega) (by omega) (by omega)<|aE rr rr ?_
   refine js (jd:=(f.tmod 64).toNat) (X:=h) O 1 (min h.length (64 - (f.tmod 64).toNat)) b4 rr rr rr rr ((J.app [_,_,_]).iK 1 rr) (fun _=>⟨_,rr,rr⟩) rr rr (by omega) (av.keep (ae.cons 2 rr ae.nil)) fun d1 y=>?_
   simp only [ah,ai,aq,ar] at y
   refine ak rr rr<|aa.fin N ?_;clear N
   refine ad fun _ P=>ag 4 15 ?_
   refine aE rr rr<|aj rr rr ?_
   obtain ⟨cc,d⟩:=d
   refine e6 (lo:=(min h.length (64 - (f.tmod 64).toNat))) (hi:=h.length) J b4 rr rr ⟨_,rr⟩ rr cc fun a76 Q R=>?_
   refine aV rr rr<|aa.fin P ?_;clear P
   refine ad fun _ S=>ag 9 255 ?_
   refine aD rr rr<|aa.nilCheck rr rr<|aa.fieldAddr 72 kg rr rr<|aX y 2 rr rr rr (by omega) ed<|aj rr rr ?_
   obtain ⟨d2,d⟩:=d
   refine iF (a:=f) (b:=(((min h.length (64 - (f.tmod 64).toNat)):Nat):Int)) rr rr rr (by omega)<|aa.nilCheck rr rr<|aa.fieldAddr 72 kg rr rr ?_
   refine gn y 2 rr rr rr rr tX rr fun d3 k=>?_
   simp only [ah,ai,aq,ar] at k
   refine aa.fin S ?_;clear S
   refine ad fun _ T=>ag 6 63 ?_
   refine aD rr rr<|aa.nilCheck rr rr<|aa.fieldAddr 72 kg rr rr<|aX k 2 rr rr rr (by omega) ed ?_
   have d4:=jw (f+(((min h.length (64 - (f.tmod 64).toNat)):Nat):Int)) (c:=64) (by decide)
   refine iP (a:=(f+(((min h.length (64 - (f.tmod 64).toNat)):Nat):Int))) (b:=64) rr rr rr (by omega)<|aR (a:=(((f+(((min h.length (64 - (f.tmod 64).toNat)):Nat):Int)).tmod 64):Int)) (b:=(0:Int)) (p:=((f+(((min h.length (64 - (f.tmod 64).toNat)):Nat):Int)).tmod 64)=0) rr rr rr rr j3<|aa.fin T ?_;clear T
   by_cases l:((f+(((min h.length (64 - (f.tmod 64).toNat)):Nat):Int)).tmod 64)=0
   ·
    replace d:=aA d l
    refine aG (congrArg Value.bool (decide_eq_true l)) ?_
    refine bd a7 [1,3,5,7,9,11,13,15,17,18,21,23,24] ?_
    have z:=k.drew
    refine aD rr rr<|aD rr rr<|aa.nilCheck rr rr<|bm r0 rr rr<|aP z 0 rr rr rr mr<|aD rr rr<|aa.nilCheck rr rr<|aa.fieldAddr 8 xJ rr rr ?_
    refine aP z 1 rr rr rr td ?_
    obtain ⟨cd,ce,d⟩:=d
    refine aw F_ (Af (iG2:=iG2+3) V ce z) ?_
    rintro _ d5 ⟨rfl,ci⟩
    refine ⟨_,rr,.inr ⟨rr,?_⟩⟩
    refine aa.nilCheck rr rr<|bm r0 rr rr ?_
    refine aY (f':=fun q=>VU .u32 (cd q)) ci 0 rr rr rr rr (fun _ _=>rr) vr rr fun d6 U=>?_
    simp only [ah,ai,aq,ar] at U
    refine aa.nil ?_
    refine bo ?_
    exact bG ⟨_,d,a76,Q,(ab (ab au)),U,R⟩
   ·
    replace d:=az d l
    refine aO (congrArg Value.bool (decide_eq_false l)) ?_
    refine W.skip ?_
    refine bo ?_
    exact bG ⟨_,d,a76,Q,(ab (ab au)),k,R⟩
  ·
   replace d:=az d j
   refine aO (congrArg Value.bool (decide_eq_false j)) ?_
   refine W.exit (bM (bU (bL ?_)))
   exact ⟨a4,a5,f,(a9 _ d).symm,au,I⟩
 ·
  rintro cl d7 ⟨s,t,u,co,cs,c1⟩
  obtain ⟨cl,rfl⟩:=cs.open
  cases co
  replace d:=a3
  refine lX ?_
  subst r
  refine ax.mk .nil ?_
  exact ⟨rr,c1⟩
theorem ET {B:Nat} {w0:aC} {w:World} {L:List Rg} {a:Nat} {b:Nat→U4} {c:K8} {d:Int} {r:((Nat→U4)×K8×Int)} (m:sX b c d r) (g:St B w0 (⟨some a,0,8,fun q=>VU .u32 (b q),true⟩::g8 a 8 64 c::g1 a 72 (.int .i64 d)::L) w):
  Calls Tryz.prog 100 #[pt a 0] w fun e w'=>∃f:Nat,e= .returned (pt f 0)∧St B w0 (⟨some f,0,8,fun q=>VU .u32 (r.1 q),true⟩::g8 f 8 64 r.2.1::g1 f 72 (.int .i64 r.2.2)::⟨some a,0,8,fun q=>VU .u32 (b q),true⟩::g8 a 8 64 c::g1 a 72 (.int .i64 d)::L) w':=by
 refine W.enter 7 Tryz.func100 rr rr rr ?_
 unfold sX at m
 refine ad fun _ h=>ag 1 1 ?_
 refine cA rr rr<|aa.fin h ?_;clear h
 refine ad fun _ i=>ag 5 7 ?_
 refine aD rr rr<|aa.nilCheck rr rr<|bO g rr rr (.cons 0 rr (.cons 1 rr (.cons 2 rr .nil))) BU ?_
 refine aa.alloc g rr xw (ae.parts (.cons 0 rr (.cons 1 rr (.cons 2 rr .nil))) ae.nil) fun n o p j=>?_
 simp only [ao,Nat.zero_add,Nat.reduceAdd,ah,ai] at j
 refine bA (ps:= [(8,fun q=>VU .u32 (b q)),p8 64 c,p1 (.int .i64 d)]) j rr rr rr (.cons 0 rr (.cons 1 rr (.cons 2 rr .nil))) ⟨fun _ _=>rr,fun _ _=>rr,fun _ _=>rr,trivial⟩ F7 (av.wait rr) fun s k=>?_
 simp only [ah,ai,aq,ar] at k
 refine aa.fin i ?_;clear i
 refine ad fun _ l=>ag 1 1 ?_
 refine cA rr rr<|aa.fin l ?_;clear l
 refine W.ret (aB ?_)
 subst r
 refine ax.mk (.fk rr .nil) ?_
 exact ⟨n,rr,k⟩
theorem ye {B:Nat} {w0:aC} {w:World} {L:List Rg} {iG2:Nat} (x:gT L iG2 2 64 .u32 bE) {f:Nat} {l:Nat→U4} {m:K8} {g:Int} {r:K8} (d:na l m g r) (eq:St B w0 (⟨some f,0,8,fun q=>VU .u32 (l q),true⟩::g8 f 8 64 m::g1 f 72 (.int .i64 g)::L) w):
  Calls Tryz.prog 67 #[pt f 0] w fun e w'=>e= .returned (AG [p8 32 r])∧St B w0 (⟨some f,0,8,fun q=>VU .u32 (l q),true⟩::g8 f 8 64 m::g1 f 72 (.int .i64 g)::L) w':=by
 refine W.enter 78 Tryz.func67 rr rr rr ?_
 unfold na at d
 refine ad fun _ P=>ag 1 0 ?_
 refine aa.alloc eq rr dZ ae.nil fun k i1 i2 Q=>?_
 simp only [ao,Nat.zero_add,Nat.reduceAdd,ah,ai] at Q
 refine aa.fin P ?_;clear P
 refine ad fun _ R=>ag 3 5 ?_
 refine aD rr rr ?_
 have S:=St.aF (C:= [_,_,_,_]) Q [1,2,3,0] (by decide)
 simp only [pick,aL,aK,aM,aJ,ah,ai] at S
 obtain ⟨i3,i4,i5,es,d⟩:=d
 refine aw Cg (ET es S) ?_
 rintro _ i6 ⟨h,rfl,y⟩
 refine ⟨_,rr,.inl ⟨ae.keep (by exact ae.nil) y,?_⟩⟩
 refine cA rr rr<|aa.fin R ?_;clear R
 refine ad fun _ T=>ag 7 127 ?_
 refine aD rr rr<|aa.nilCheck rr rr<|aa.fieldAddr 72 kg rr rr<|aX y 5 rr rr rr (by omega) ed<|hQ .u64 (a:=g) lD e_ rr rr<|gH .u64 (X:=8#64) (Y:=(BitVec.ofInt 64 g)) rr rr rr<|ak rr rr<|aa.fin T ?_;clear T
 refine ad fun _ U=>ag 3 1 ?_
 refine aD rr rr ?_
 refine aa.buildSlice y (ps:= [p8 1 (lit ([128#8]:List af))]) cq bJ df (by decide) (by decide) rr rr (by kernel_rfl) (av.keep ae.nil) fun z i7 i8 V=>?_
 simp only [ao,List.cons_append,List.nil_append] at V
 have ex:Ow (some ⟨z,0,none⟩) (some z) ([128#8]:List af).length 1 (lit ([128#8]:List af)) ([128#8]:List af):=⟨.inr ⟨z,rfl,rfl⟩,Nat.le_refl _,rfl,fun q _=>rfl⟩
 have Z:=St.aF (C:= [_,_,_,_,_,_,_,_]) V [1,2,3,0,4,5,6,7] (by decide)
 simp only [pick,aL,aK,aM,aJ,ah,ai] at Z
 obtain ⟨i9,jd,jp,fd,d⟩:=d
 refine aw ky (kJ (iG2:=iG2+5) x (by exact (ex.bx 0 rr)) fd Z) ?_
 rintro _ kk ⟨rfl,am⟩
 refine ⟨_,rr,.inl ⟨ae.keep (by exact ae.nil) am,?_⟩⟩
 refine aa.fin U ?_;clear U
 refine ad fun _ ap=>?_
 obtain ⟨fn,f0,f1,f2,f3⟩:=d
 refine bq (fun e w=>∃A:Nat→U4,∃D:K8,∃E:Int,(fn,f0,f1)=(A,D,E)∧aU e [(2,pt k 0),(3,pt h 0),(4,VU .u64 ((8#64)*(BitVec.ofInt 64 g)))]∧St B w0 (⟨some h,0,8,fun q=>VU .u32 (A q),true⟩::g8 h 8 64 D::g1 h 72 (.int .i64 E)::⟨some f,0,8,fun q=>VU .u32 (l q),true⟩::g8 f 8 64 m::g1 f 72 (.int .i64 g)::g8 k 0 32 (fun _=>0#8)::L) w) ?_ ?_
 ·
  refine W.block ?_
  refine bS f2 (fun (F:((Nat→U4)×K8×Int)) e w=>aU e [(2,pt k 0),(3,pt h 0),(4,VU .u64 ((8#64)*(BitVec.ofInt 64 g)))]∧St B w0 (⟨some h,0,8,fun q=>VU .u32 (F.1 q),true⟩::g8 h 8 64 F.2.1::g1 h 72 (.int .i64 F.2.2)::⟨some f,0,8,fun q=>VU .u32 (l q),true⟩::g8 f 8 64 m::g1 f 72 (.int .i64 g)::g8 k 0 32 (fun _=>0#8)::L) w) ⟨(ab (ab (ab au))),bt 8 [0,1,2,4,5,6,7] am⟩ ?_
  rintro ⟨f4,f5,n⟩ kw d f6 f7 lc ⟨f8,G⟩
  obtain ⟨f7,rfl⟩:=f8.open
  unfold nC at d
  refine ad fun _ a0=>ad fun _ a2=>?_
  refine ag 6 63 ?_
  refine aD rr rr<|aa.nilCheck rr rr<|aa.fieldAddr 72 kg rr rr<|aX G 2 rr rr rr (by omega) ed ?_
  have ld:=jw n (c:=64) (by decide)
  refine iP (a:=n) (b:=64) rr rr rr (by omega)<|aR (a:=((n.tmod 64):Int)) (b:=(56:Int)) (p:=(n.tmod 64)≠56) rr rr rr rr sN<|aa.fin a2 ?_;clear a2
  by_cases o:(n.tmod 64)≠56
  ·
   replace d:=aA d o
   refine aG (congrArg Value.bool (decide_eq_true o)) ?_
   refine W.skip ?_
   refine a0 _ _ ?_;clear a0
   refine W.block ?_
   refine ag 3 1 ?_
   refine aD rr rr ?_
   refine aa.buildSlice G (ps:= [p8 1 (lit ([0#8]:List af))]) cq bJ df (by decide) (by decide) rr rr (by kernel_rfl) (av.keep ae.nil) fun np le li a3=>?_
   simp only [ao,List.cons_append,List.nil_append] at a3
   have f9:Ow (some ⟨np,0,none⟩) (some np) ([0#8]:List af).length 1 (lit ([0#8]:List af)) ([0#8]:List af):=⟨.inr ⟨np,rfl,rfl⟩,Nat.le_refl _,rfl,fun q _=>rfl⟩
   have a4:=St.aF (C:= [_,_,_,_,_,_,_,_]) a3 [1,2,3,0,4,5,6,7] (by decide)
   simp only [pick,aL,aK,aM,aJ,ah,ai] at a4
   obtain ⟨lm,lo,ls,gc,d⟩:=d
   refine aw ky (kJ (iG2:=iG2+5) x (by exact (f9.bx 0 rr)) gc a4) ?_
   rintro _ lt ⟨rfl,a5⟩
   refine ⟨_,rr,.inl ⟨ae.keep (by exact ae.nil) a5,?_⟩⟩
   refine aa.nil ?_
   refine bo ?_
   exact bG ⟨_,d,(ab (ab (ab au))),bt 8 [0,1,2,4,5,6,7] a5⟩
  ·
   replace d:=az d o
   refine aO (congrArg Value.bool (decide_eq_false o)) ?_
   refine W.exit (bM (bU (bL ?_)))
   exact ⟨f4,f5,n,(f6 _ d).symm,(ab (ab (ab au))),G⟩
 ·
  rintro gd lw ⟨A,D,E,ge,go,gs⟩
  obtain ⟨gd,rfl⟩:=go.open
  cases ge
  replace d:=f3
  refine ap _ _ ?_;clear ap
  refine ad fun _ a9=>ad fun _ be=>?_
  refine ag 1 1 ?_
  refine aj rr rr<|aa.fin be ?_;clear be
  obtain ⟨i,gt,g0,g2,g3⟩:=d
  refine bq (fun e w=>∃H:Nat→U4,∃I:K8,∃J:Int,(i,gt,g0)=(H,I,J)∧aU e [(2,pt k 0),(3,pt h 0)]∧St B w0 (⟨some h,0,8,fun q=>VU .u32 (H q),true⟩::g8 h 8 64 I::g1 h 72 (.int .i64 J)::⟨some f,0,8,fun q=>VU .u32 (l q),true⟩::g8 f 8 64 m::g1 f 72 (.int .i64 g)::g8 k 0 32 (fun _=>0#8)::L) w) ?_ ?_
  ·
   refine W.block ?_
   refine bS g2 (fun (s:(Nat×(Nat→U4)×K8×Int)) e w=>aU e [(2,pt k 0),(3,pt h 0),(4,VU .u64 ((8#64)*(BitVec.ofInt 64 g))),(29,VN s.1)]∧St B w0 (⟨some h,0,8,fun q=>VU .u32 (s.2.1 q),true⟩::g8 h 8 64 s.2.2.1::g1 h 72 (.int .i64 s.2.2.2)::⟨some f,0,8,fun q=>VU .u32 (l q),true⟩::g8 f 8 64 m::g1 f 72 (.int .i64 g)::g8 k 0 32 (fun _=>0#8)::L) w) ⟨(ab (ab (ab (ab au)))),gs⟩ ?_
   rintro ⟨t101,g4,g5,g6⟩ md d g7 g9 mp ⟨he,bi⟩
   obtain ⟨g9,rfl⟩:=he.open
   unfold oP at d
   refine ad fun _ bv=>ag 1 1 ?_
   refine aR (a:=(((t101:Nat):Int):Int)) (b:=(8:Int)) (p:=t101 < 8) rr rr rr rr bW<|aa.fin bv ?_;clear bv
   refine ad fun _ cc=>?_
   by_cases t:t101 < 8
   ·
    replace d:=aA d t
    refine aG (congrArg Value.bool (decide_eq_true t)) ?_
    refine W.skip ?_
    refine cc _ _ ?_;clear cc
    refine ad fun _ cd=>?_
    refine W.block ?_
    refine ad fun _ ce=>ag 2 3 ?_
    refine aj rr rr<|ak rr rr<|aa.fin ce ?_;clear ce
    refine ag 9 127 ?_
    refine aD rr rr<|aj rr rr<|aj rr rr<|fr (a:=8) (b:=t101) rr rr rr (by omega)<|jx (a:=56) (b:=(8*t101)) rr rr rr (by omega)<|cJ .u64 (X:=((8#64)*(BitVec.ofInt 64 g))) (c:=(56 - (8*t101))) rr rr rr<|dU .u8 (X:=(((8#64)*(BitVec.ofInt 64 g)) >>> (56 - (8*t101)))) cw p3 rr rr ?_
    refine aa.buildSlice bi (ps:= [p8 1 (lit ([((((8#64)*(BitVec.ofInt 64 g)) >>> (56 - (8*t101))).setWidth 8)]:List af))]) cq bJ df (by decide) (by decide) rr rr rr (av.keep ae.nil) fun K ms mt ci=>?_
    simp only [ao,List.cons_append,List.nil_append] at ci
    have hi:Ow (some ⟨K,0,none⟩) (some K) ([((((8#64)*(BitVec.ofInt 64 g)) >>> (56 - (8*t101))).setWidth 8)]:List af).length 1 (lit ([((((8#64)*(BitVec.ofInt 64 g)) >>> (56 - (8*t101))).setWidth 8)]:List af)) ([((((8#64)*(BitVec.ofInt 64 g)) >>> (56 - (8*t101))).setWidth 8)]:List af):=⟨.inr ⟨K,rfl,rfl⟩,Nat.le_refl _,rfl,fun q _=>rfl⟩
    have cl:=St.aF (C:= [_,_,_,_,_,_,_,_]) ci [1,2,3,0,4,5,6,7] (by decide)
    simp only [pick,aL,aK,aM,aJ,ah,ai] at cl
    obtain ⟨m0,m1,m2,hk,d⟩:=d
    refine aw ky (kJ (iG2:=iG2+5) x (by exact (hi.bx 0 rr)) hk cl) ?_
    rintro _ m3 ⟨rfl,co⟩
    refine ⟨_,rr,.inl ⟨ae.keep (by exact ae.nil) co,?_⟩⟩
    refine aa.nil ?_
    refine bo ?_
    refine cd _ _ ?_;clear cd
    refine ag 2 3 ?_
    refine bu (a:=t101) (b:=1) rr rr rr (by omega)<|aj rr rr<|aa.nil ?_
    exact bG ⟨_,d,(ab (ab (ab (ab au)))),bt 8 [0,1,2,4,5,6,7] co⟩
   ·
    replace d:=az d t
    refine aO (congrArg Value.bool (decide_eq_false t)) ?_
    refine W.exit (bM (bU (bL ?_)))
    exact ⟨g4,g5,g6,(g7 _ d).symm,(ab (ab au)),bi⟩
  ·
   rintro hm m4 ⟨H,I,J,hu,hw,hH⟩
   obtain ⟨hm,rfl⟩:=hw.open
   cases hu
   replace d:=g3
   refine a9 _ _ ?_;clear a9
   refine ad fun _ cs=>ag 1 0 ?_
   refine aa.alloc hH rr dZ ae.nil fun u m5 m6 M=>?_
   simp only [ao,Nat.zero_add,Nat.reduceAdd,ah,ai] at M
   refine aa.fin cs ?_;clear cs
   refine ad fun _ c1=>ad fun _ c2=>?_
   refine ag 5 31 ?_
   refine aD rr rr<|aa.nilCheck rr rr<|bm r0 rr rr<|aP M 1 rr rr rr mr<|aj rr rr<|aa.fin c2 ?_;clear c2
   obtain ⟨dl,hO,h1⟩:=d
   refine bq (fun e w=>∃N:K8,dl=N∧aU e [(2,pt k 0),(6,pt u 0)]∧St B w0 (g8 u 0 32 N::⟨some f,0,8,fun q=>VU .u32 (l q),true⟩::g8 f 8 64 m::g1 f 72 (.int .i64 g)::g8 k 0 32 (fun _=>0#8)::L) w) ?_ ?_
   ·
    refine W.block ?_
    refine bS hO (fun (ds:(Nat×K8)) e w=>aU e [(2,pt k 0),(6,pt u 0),(45,AG [(8,fun q=>VU .u32 (i q))]),(46,VN ds.1)]∧St B w0 (g8 u 0 32 ds.2::⟨some f,0,8,fun q=>VU .u32 (l q),true⟩::g8 f 8 64 m::g1 f 72 (.int .i64 g)::g8 k 0 32 (fun _=>0#8)::L) w) ⟨(ab (ab (ab (ab au)))),bt 8 [0,4,5,6,7] M⟩ ?_
    rintro ⟨t147,id⟩ m7 d ii io m8 ⟨ip,d0⟩
    obtain ⟨io,rfl⟩:=ip.open
    unfold ql at d
    refine ad fun _ d1=>ag 1 1 ?_
    refine aR (a:=(((t147:Nat):Int):Int)) (b:=(8:Int)) (p:=t147 < 8) rr rr rr rr bW<|aa.fin d1 ?_;clear d1
    refine ad fun _ d2=>?_
    by_cases v:t147 < 8
    ·
     replace d:=aA d v
     refine aG (congrArg Value.bool (decide_eq_true v)) ?_
     refine W.skip ?_
     refine d2 _ _ ?_;clear d2
     refine ad fun _ d3=>?_
     refine W.block ?_
     refine ad fun _ d4=>ag 4 15 ?_
     refine aj rr rr<|rz (j:=t147) xH fC bf rr rr rr (by omega) (by decide)<|ak rr rr<|ak rr rr<|aa.fin d4 ?_;clear d4
     refine ag 30 360710143 ?_
     refine aj rr rr<|fr (a:=4) (b:=t147) rr rr rr (by omega)<|aj rr rr<|fr (a:=4) (b:=t147) rr rr rr (by omega)<|bu (a:=(4*t147)) (b:=1) rr rr rr (by omega)<|aj rr rr<|fr (a:=4) (b:=t147) rr rr rr (by omega)<|bu (a:=(4*t147)) (b:=2) rr rr rr (by omega) ?_
     refine aj rr rr<|fr (a:=4) (b:=t147) rr rr rr (by omega)<|bu (a:=(4*t147)) (b:=3) rr rr rr (by omega)<|aj rr rr<|cJ .u32 (X:=(i t147)) (c:=24) rr rr rr<|dU .u8 (X:=((i t147) >>> 24)) cw eP rr rr<|aj rr rr<|cJ .u32 (X:=(i t147)) (c:=16) rr rr rr ?_
     refine dU .u8 (X:=((i t147) >>> 16)) cw eP rr rr<|aj rr rr<|cJ .u32 (X:=(i t147)) (c:=8) rr rr rr<|dU .u8 (X:=((i t147) >>> 8)) cw eP rr rr<|aj rr rr<|dU .u8 (X:=(i t147)) cw eP rr rr<|a1 (j:=(4*t147)) gQ rr rr rr (by omega) ?_
     refine cr (j:=(4*t147)) (X:=(((i t147) >>> 24).setWidth 8)) d0 0 rr rr rr rr (by omega) bJ rr fun m9 d5=>?_
     simp only [ah,ai,aq,ar] at d5
     refine a1 (j:=((4*t147)+1)) gQ rr rr rr (by omega) ?_
     refine cr (j:=((4*t147)+1)) (X:=(((i t147) >>> 16).setWidth 8)) d5 0 rr rr rr rr (by omega) bJ rr fun m' d6=>?_
     simp only [ah,ai,aq,ar] at d6
     refine a1 (j:=((4*t147)+2)) gQ rr rr rr (by omega) ?_
     refine cr (j:=((4*t147)+2)) (X:=(((i t147) >>> 8).setWidth 8)) d6 0 rr rr rr rr (by omega) bJ rr fun ne d7=>?_
     simp only [ah,ai,aq,ar] at d7
     refine a1 (j:=((4*t147)+3)) gQ rr rr rr (by omega) ?_
     refine cr (j:=((4*t147)+3)) (X:=((i t147).setWidth 8)) d7 0 rr rr rr rr (by omega) bJ rr fun nl d8=>?_
     simp only [ah,ai,aq,ar] at d8
     refine aa.nil ?_
     refine bo ?_
     refine d3 _ _ ?_;clear d3
     refine ag 2 3 ?_
     refine bu (a:=t147) (b:=1) rr rr rr (by omega)<|aj rr rr<|aa.nil ?_
     exact bG ⟨_,d,(ab (ab (ab (ab au)))),d8⟩
    ·
     replace d:=az d v
     refine aO (congrArg Value.bool (decide_eq_false v)) ?_
     refine W.exit (bM (bU (bL ?_)))
     exact ⟨id,(ii _ d).symm,(ab (ab au)),d0⟩
   ·
    rintro is no ⟨N,it,i0,d9⟩
    obtain ⟨is,rfl⟩:=i0.open
    subst it
    replace d:=h1
    refine c1 _ _ ?_;clear c1
    refine ad fun _ el=>ag 2 1 ?_
    refine aP d9 0 rr rr rr lH ?_
    refine aY (f':=fun q=>VU .u8 (dl q)) d9 4 rr rr rr rr (fun _ _=>rr) dV rr fun n5 O=>?_
    simp only [ah,ai,aq,ar] at O
    refine aa.fin el ?_;clear el
    refine W.ret (aB ?_)
    have em:=St.aF (C:= [_,_,_,_,_]) O [1,2,3] (by decide)
    simp only [pick,aL,aK,aM,aJ,ah,ai] at em
    subst r
    refine ax.mk (.agg O rr (.cons 4 rr .nil) lH .nil) ?_
    exact ⟨rr,em⟩
theorem xf {B:Nat} {w0:aC} {w:World} {L:List Rg} {iG1:Nat} (Q:gT L iG1 1 8 .u32 cH) {iG2:Nat} (v:gT L iG2 2 64 .u32 bE) {f:List (List af)} {k:Option Addr} {x l R:Nat} (m:bR L R k x l f) {r:K8} (c:lN f r) (S:St B w0 (L) w):
  Calls Tryz.prog 68 #[.slice k x l] w fun e w'=>e= .returned (AG [p8 32 r])∧St B w0 (L) w':=by
 refine W.enter 19 Tryz.func68 rr rr rr ?_
 unfold lN at c
 have T:=m.hl;subst T
 refine ad fun _ y=>ag 1 0 ?_
 refine aa.alloc S rr dZ ae.nil fun g cl co h3=>?_
 simp only [ao,Nat.zero_add,Nat.reduceAdd,ah,ai] at h3
 refine aa.fin y ?_;clear y
 refine ad fun _ z=>ag 2 2 ?_
 obtain ⟨cs,c1,c2,U,c⟩:=c
 refine aw xd (wi (iG1:=iG1+1) Q U h3) ?_
 rintro _ dl ⟨d,rfl,A⟩
 refine ⟨_,rr,.inl ⟨ae.keep (by exact ae.nil) A,?_⟩⟩
 refine cA rr rr<|aa.fin z ?_;clear z
 refine ad fun _ E=>ad fun _ F=>?_
 refine ag 3 7 ?_
 refine aE rr rr<|aa.len kj rr rr<|aj rr rr<|aa.fin F ?_;clear F
 obtain ⟨V,X,Y,Z,am⟩:=c
 refine bq (fun e w=>∃n:Nat→U4,∃o:K8,∃s:Int,(V,X,Y)=(n,o,s)∧aU e [(2,pt g 0),(3,pt d 0)]∧St B w0 (⟨some d,0,8,fun q=>VU .u32 (n q),true⟩::g8 d 8 64 o::g1 d 72 (.int .i64 s)::g8 g 0 32 (fun _=>0#8)::L) w) ?_ ?_
 ·
  refine W.block ?_
  refine bS Z (fun (h:(Nat×(Nat→U4)×K8×Int)) e w=>aU e [(2,pt g 0),(3,pt d 0),(7,.slice k f.length l),(8,VN f.length),(9,VN h.1)]∧St B w0 (⟨some d,0,8,fun q=>VU .u32 (h.2.1 q),true⟩::g8 d 8 64 h.2.2.1::g1 d 72 (.int .i64 h.2.2.2)::g8 g 0 32 (fun _=>0#8)::L) w) ⟨(ab (ab (ab (ab (ab au))))),A⟩ ?_
  rintro ⟨t42,ap,a0,a2⟩ ds c a3 a4 d0 ⟨a5,t⟩
  obtain ⟨a4,rfl⟩:=a5.open
  unfold oZ at c
  refine ad fun _ G=>ag 1 1 ?_
  refine aR (a:=(((t42:Nat):Int):Int)) (b:=(((f.length:Nat):Int):Int)) (p:=t42 < f.length) rr rr rr rr bW<|aa.fin G ?_;clear G
  refine ad fun _ H=>?_
  by_cases i:t42 < f.length
  ·
   replace c:=aA c i
   refine aG (congrArg Value.bool (decide_eq_true i)) ?_
   refine W.skip ?_
   refine H _ _ ?_;clear H
   refine ad fun _ I=>?_
   refine W.block ?_
   refine ad fun _ J=>ag 3 7 ?_
   obtain ⟨K,c⟩:=c
   refine k3 (j:=t42) m kY rr rr rr K ?_
   refine k0 (D:= [_,_,_,_]) (j:=t42) t m rr rr K hT fun d1 i57 d2 d3 d4 a9=>?_
   refine aV rr rr<|aa.fin J ?_;clear J
   refine ag 3 3 ?_
   refine aD rr rr<|aE rr rr ?_
   obtain ⟨d5,d6,d7,be,c⟩:=c
   refine aw ky (kJ (iG2:=iG2+1) v (a9.app [_]) be t) ?_
   rintro _ d8 ⟨rfl,M⟩
   refine ⟨_,rr,.inl ⟨ae.keep (by exact ae.nil) M,?_⟩⟩
   refine aa.nil ?_
   refine bo ?_
   refine I _ _ ?_;clear I
   refine ag 2 3 ?_
   obtain ⟨d9,c⟩:=c
   refine bu (a:=t42) (b:=1) rr rr rr (by omega)<|aj rr rr<|aa.nil ?_
   exact bG ⟨_,c,(ab (ab (ab (ab (ab au))))),M⟩
  ·
   replace c:=az c i
   refine aO (congrArg Value.bool (decide_eq_false i)) ?_
   refine W.exit (bM (bU (bL ?_)))
   exact ⟨ap,a0,a2,(a3 _ c).symm,(ab (ab au)),t⟩
 ·
  rintro bi el ⟨n,o,s,bv,cc,cd⟩
  obtain ⟨bi,rfl⟩:=cc.open
  cases bv
  replace c:=am
  refine E _ _ ?_;clear E
  refine ad fun _ N=>ag 3 1 ?_
  refine aD rr rr ?_
  obtain ⟨ce,ci,c⟩:=c
  refine aw yZ (ye (iG2:=iG2+1) v ci cd) ?_
  rintro _ em ⟨rfl,O⟩
  refine ⟨_,rr,.inl ⟨ae.keep (by exact ae.nil) O,?_⟩⟩
  refine aY (f':=fun q=>VU .u8 (ce q)) O 3 rr rr rr rr (fun _ _=>rr) dV rr fun eq u=>?_
  simp only [ah,ai,aq,ar] at u
  refine aa.fin N ?_;clear N
  refine W.ret (aB ?_)
  have P:=St.aF (C:= [_,_,_,_]) u [] (by decide)
  simp only [pick,aL,aK,aM,aJ,ah,ai] at P
  subst r
  refine ax.mk (.agg u rr (.cons 3 rr .nil) lH .nil) ?_
  exact ⟨rr,P⟩
end Go.Proofs.YtjclppnbbpnfnaaGreatDoor
