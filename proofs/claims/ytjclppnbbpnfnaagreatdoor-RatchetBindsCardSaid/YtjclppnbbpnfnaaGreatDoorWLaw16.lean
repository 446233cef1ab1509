/-
 WALKS of the package's functions, printed by this session's own program (auto.py).
-/
import Derived.Test.YtjclppnbbpnfnaaGreatDoorWF
import Derived.Test.YtjclppnbbpnfnaaGreatDoorProg
import Derived.Test.YtjclppnbbpnfnaaGreatDoorEd
import Derived.Test.YtjclppnbbpnfnaaGreatDoorRLaw16
import Derived.Test.YtjclppnbbpnfnaaGreatDoorEls
import Derived.Test.YtjclppnbbpnfnaaGreatDoorWCurve
import Derived.Test.YtjclppnbbpnfnaaGreatDoorWHeader
import Derived.Test.YtjclppnbbpnfnaaGreatDoorWKdf
import Derived.Test.YtjclppnbbpnfnaaGreatDoorWRatchet
namespace Go.Proofs.YtjclppnbbpnfnaaGreatDoor
set_option linter.unusedSimpArgs false
set_option linter.unusedVariables false
set_option linter.unusedSectionVars false
set_option maxRecDepth 8000
set_option maxHeartbeats 1000000
open Go Go.LW
set_option maxRecDepth 8000 in
set_option maxHeartbeats 16000000 in
theorem ru {B:Nat} {w0:aC} {w:World} {L:List Rg} {iG3:Nat} (G:gT L iG3 3 5 .u64 dn) {f:K8} {d:Int} {r:(K8×K8×Bool)} (g:kT f d r) (H:St B w0 (L) w):
  Calls Tryz.prog 15 #[AG [p8 32 f],.int .i64 d] w fun e w'=>e= .returned (.tuple #[AG [p8 32 r.1,p8 32 r.2.1],.bool r.2.2])∧St B w0 (L) w':=by
 refine W.enter 31 Tryz.func15 rr rr rr ?_
 unfold kT at g
 refine ad fun _ o=>ag 3 4 ?_
 refine bp H rr rr ae.nil fun K M N q=>?_
 simp only [ao,Nat.zero_add,Nat.reduceAdd,ah,ai] at q
 refine aa.alloc q rr iY ae.nil fun O P Q h=>?_
 simp only [ao,Nat.zero_add,Nat.reduceAdd,ah,ai] at h
 refine a8 rr rr<|aa.fin o ?_;clear o
 refine ad fun _ s=>ag 9 255 ?_
 refine a1 (j:=0) c' rr rr rr (by omega)<|bk (j:=0) h 2 rr rr rr (by omega) bZ<|aj rr rr ?_
 have R:=jw d (c:=32) (by decide)
 refine iP (a:=d) (b:=32) rr rr rr (by omega)<|zv (a:=8) (b:=(d.tmod 32)) rr rr rr (by omega)<|hQ .u8 (a:=(8*(d.tmod 32))) cw e_ rr rr<|cp .u8 (X:=(f 0)) (Y:=(BitVec.ofInt 8 (8*(d.tmod 32)))) rr rr rr<|a1 (j:=0) c' rr rr rr (by omega) ?_
 refine cr (j:=0) (X:=((f 0) ^^^ (BitVec.ofInt 8 (8*(d.tmod 32))))) h 2 rr rr rr rr (by omega) bJ rr fun S i=>?_
 simp only [ah,ai,aq,ar] at i
 refine aa.fin s ?_;clear s
 refine ad fun _ t=>ag 8 127 ?_
 refine a1 (j:=1) c' rr rr rr (by omega)<|bk (j:=1) i 2 rr rr rr (by omega) bZ<|aj rr rr ?_
 obtain ⟨I,g⟩:=g
 refine lp (a:=d) (b:=32) rr rr rr (by omega) I<|hQ .u8 (a:=(d.tdiv 32)) cw e_ rr rr<|cp .u8 (X:=((an f 0 ((f 0) ^^^ (BitVec.ofInt 8 (8*(d.tmod 32))))) 1)) (Y:=(BitVec.ofInt 8 (d.tdiv 32))) rr rr rr<|a1 (j:=1) c' rr rr rr (by omega) ?_
 refine cr (j:=1) (X:=(((an f 0 ((f 0) ^^^ (BitVec.ofInt 8 (8*(d.tmod 32))))) 1) ^^^ (BitVec.ofInt 8 (d.tdiv 32)))) i 2 rr rr rr rr (by omega) bJ rr fun T u=>?_
 simp only [ah,ai,aq,ar] at u
 refine aa.fin t ?_;clear t
 refine ad fun _ v=>ag 8 157 ?_
 refine c8 (lo:=0) (hi:=32) (m:=32) (c:=32) (o':=0) c' rr rr rr rr (by omega) (by omega) (by omega) (by omega) ?_
 obtain ⟨x,y,z,J,g⟩:=g
 refine aw va (yW (iG3:=iG3+3) G (by exact (bH (n:=32) (cc:=32) 2 rr (by omega) (by omega))) J u) ?_
 rintro _ U ⟨rfl,A⟩
 refine ⟨_,rr,.inl ⟨ae.keep (by exact ae.nil) A,?_⟩⟩
 refine bK rr rr<|b5 rr rr rr<|b' rr rr rr ?_
 refine aa.alloc A rr iY ae.nil fun V Z am D=>?_
 simp only [ao,Nat.zero_add,Nat.reduceAdd,ah,ai] at D
 refine bA (ps:= [p8 32 x,p8 32 y]) D rr rr rr (.cons 0 rr (.cons 1 rr .nil)) ⟨fun _ _=>rr,fun _ _=>rr,trivial⟩ iA (av.keep ae.nil) fun ap k=>?_
 simp only [ah,ai,aq,ar] at k
 refine ak rr rr<|aa.fin v ?_;clear v
 refine ad fun _ E=>ag 5 23 ?_
 refine bO k rr rr (.cons 0 rr (.cons 1 rr .nil)) iV<|aj rr rr<|aR (a:=(((z:Nat):Int):Int)) (b:=(0:Int)) (p:=z=0) rr rr rr rr fL ?_
 refine bA (ps:= [p8 32 x,p8 32 y]) k rr rr rr (.cons 2 rr (.cons 3 rr .nil)) ⟨fun _ _=>rr,fun _ _=>rr,trivial⟩ iA (av.wait rr) fun a0 l=>?_
 simp only [ah,ai,aq,ar] at l
 refine a8 rr rr<|aa.fin E ?_;clear E
 refine W.ret (aB ?_)
 have F:=St.aF (C:= [_,_,_,_,_]) l [] (by decide)
 simp only [pick,aL,aK,aM,aJ,ah,ai] at F
 subst r
 refine ax.mk (.agg l rr (.cons 2 rr (.cons 3 rr .nil)) iV (.b2 rr .nil)) ?_
 exact ⟨rr,F⟩
set_option maxRecDepth 8000 in
set_option maxHeartbeats 16000000 in
theorem w1 {B:Nat} {w0:aC} {w:World} {L:List Rg} {iG1:Nat} (f1:gT L iG1 1 8 .u32 cH) {iG2:Nat} (f2:gT L iG2 2 64 .u32 bE) {iG3:Nat} (y:gT L iG3 3 5 .u64 dn) {LP:List Rg} (i0:∀r∈LP,r∈L) {H l:K8} {r:Bool ⊕ (K8×K8×K8×K8×K8×K8×K8×U4×U4×U4×U4×U4×U4×K8×K8×U4×K8×K8×K8×K8×K8×K8×K8×K8×U4×U4×U4×U4×U4×U4×K8×K8×U4×K8×(aZ)×(aZ)×(cI)×Nat×Bool)} (d:lr H l r) (f3:St B w0 (L) w):
  Calls Tryz.prog 11 #[AG [p8 32 H],AG [p8 16 l]] w fun e w'=>match r with | .inl z=>∃C:List Rg,e= .returned (.tuple #[.pointer none,.bool z])∧St B w0 ((C ++L)) w' | .inr z=>∃C:List Rg,∃c:Nat,∃I:Option Addr,∃J:Option Nat,∃K A:Nat,∃M:Nat→Value,∃N:Option Addr,∃O:Option Nat,∃P D:Nat,∃Q:Nat→Value,∃R:Option Addr,∃S:Option Nat,∃T E:Nat,∃U:Nat→Value,e= .returned (.tuple #[pt c 0,.bool z.2.2.2.2.2.2.2.2.2.2.2.2.2.2.2.2.2.2.2.2.2.2.2.2.2.2.2.2.2.2.2.2.2.2.2.2.2.2])∧St B w0 (g8 c 0 16 z.1::g8 c 16 32 z.2.1::g8 c 48 32 z.2.2.1::g8 c 80 32 z.2.2.2.1::g8 c 112 32 z.2.2.2.2.1::g8 c 144 32 z.2.2.2.2.2.1::g8 c 176 32 z.2.2.2.2.2.2.1::g4 c 208 z.2.2.2.2.2.2.2.1::g4 c 209 z.2.2.2.2.2.2.2.2.1::g4 c 210 z.2.2.2.2.2.2.2.2.2.1::g4 c 211 z.2.2.2.2.2.2.2.2.2.2.1::g4 c 212 z.2.2.2.2.2.2.2.2.2.2.2.1::g4 c 213 z.2.2.2.2.2.2.2.2.2.2.2.2.1::g8 c 214 32 z.2.2.2.2.2.2.2.2.2.2.2.2.2.1::g8 c 246 32 z.2.2.2.2.2.2.2.2.2.2.2.2.2.2.1::g4 c 278 z.2.2.2.2.2.2.2.2.2.2.2.2.2.2.2.1::g8 c 279 64 z.2.2.2.2.2.2.2.2.2.2.2.2.2.2.2.2.1::g8 c 343 16 z.2.2.2.2.2.2.2.2.2.2.2.2.2.2.2.2.2.1::g8 c 359 32 z.2.2.2.2.2.2.2.2.2.2.2.2.2.2.2.2.2.2.1::g8 c 391 32 z.2.2.2.2.2.2.2.2.2.2.2.2.2.2.2.2.2.2.2.1::g8 c 423 32 z.2.2.2.2.2.2.2.2.2.2.2.2.2.2.2.2.2.2.2.2.1::g8 c 455 32 z.2.2.2.2.2.2.2.2.2.2.2.2.2.2.2.2.2.2.2.2.2.1::g8 c 487 32 z.2.2.2.2.2.2.2.2.2.2.2.2.2.2.2.2.2.2.2.2.2.2.1::g8 c 519 32 z.2.2.2.2.2.2.2.2.2.2.2.2.2.2.2.2.2.2.2.2.2.2.2.1::g4 c 551 z.2.2.2.2.2.2.2.2.2.2.2.2.2.2.2.2.2.2.2.2.2.2.2.2.1::g4 c 552 z.2.2.2.2.2.2.2.2.2.2.2.2.2.2.2.2.2.2.2.2.2.2.2.2.2.1::g4 c 553 z.2.2.2.2.2.2.2.2.2.2.2.2.2.2.2.2.2.2.2.2.2.2.2.2.2.2.1::g4 c 554 z.2.2.2.2.2.2.2.2.2.2.2.2.2.2.2.2.2.2.2.2.2.2.2.2.2.2.2.1::g4 c 555 z.2.2.2.2.2.2.2.2.2.2.2.2.2.2.2.2.2.2.2.2.2.2.2.2.2.2.2.2.1::g4 c 556 z.2.2.2.2.2.2.2.2.2.2.2.2.2.2.2.2.2.2.2.2.2.2.2.2.2.2.2.2.2.1::g8 c 557 32 z.2.2.2.2.2.2.2.2.2.2.2.2.2.2.2.2.2.2.2.2.2.2.2.2.2.2.2.2.2.2.1::g8 c 589 32 z.2.2.2.2.2.2.2.2.2.2.2.2.2.2.2.2.2.2.2.2.2.2.2.2.2.2.2.2.2.2.2.1::g4 c 621 z.2.2.2.2.2.2.2.2.2.2.2.2.2.2.2.2.2.2.2.2.2.2.2.2.2.2.2.2.2.2.2.2.1::g8 c 622 64 z.2.2.2.2.2.2.2.2.2.2.2.2.2.2.2.2.2.2.2.2.2.2.2.2.2.2.2.2.2.2.2.2.2.1::g1 c 686 (.slice I K A)::gL J (A*34) M::g1 c 687 (.slice N P D)::gL O (D*34) Q::g1 c 688 (.slice R T E)::gL S (E*55) U::g1 c 689 (VN z.2.2.2.2.2.2.2.2.2.2.2.2.2.2.2.2.2.2.2.2.2.2.2.2.2.2.2.2.2.2.2.2.2.2.2.2.2.1)::(C ++L)) w'∧LO bB [] I J K A M z.2.2.2.2.2.2.2.2.2.2.2.2.2.2.2.2.2.2.2.2.2.2.2.2.2.2.2.2.2.2.2.2.2.2.1∧LO bB [] N O P D Q z.2.2.2.2.2.2.2.2.2.2.2.2.2.2.2.2.2.2.2.2.2.2.2.2.2.2.2.2.2.2.2.2.2.2.2.1∧LO (dp.at (C ++LP)) [] R S T E U z.2.2.2.2.2.2.2.2.2.2.2.2.2.2.2.2.2.2.2.2.2.2.2.2.2.2.2.2.2.2.2.2.2.2.2.2.1:=by
 refine W.enter 69 Tryz.func11 rr rr rr ?_
 unfold lr at d
 have i1:dB L LP L LP:=dB.refl _ _
 refine ad fun _ V=>ag 4 12 ?_
 refine bp f3 rr rr ae.nil fun i2 i3 i4 X=>?_
 simp only [ao,Nat.zero_add,Nat.reduceAdd,ah,ai] at X
 refine bp X rr rr ae.nil fun i5 i6 i7 Y=>?_
 simp only [ao,Nat.zero_add,Nat.reduceAdd,ah,ai] at Y
 refine cA rr rr<|a8 rr rr<|aa.fin V ?_;clear V
 refine ad fun _ Z=>ag 3 5 ?_
 refine dt (ps:= [p8 16 (fun _=>0#8),p8 32 (fun _=>0#8),p8 32 (fun _=>0#8),p8 32 (fun _=>0#8),p8 32 (fun _=>0#8),p8 32 (fun _=>0#8),p8 32 (fun _=>0#8),p4 (0#32),p4 (0#32),p4 (0#32),p4 (0#32),p4 (0#32),p4 (0#32),p8 32 (fun _=>0#8),p8 32 (fun _=>0#8),p4 (0#32),p8 64 (fun _=>0#8),p8 16 (fun _=>0#8),p8 32 (fun _=>0#8),p8 32 (fun _=>0#8),p8 32 (fun _=>0#8),p8 32 (fun _=>0#8),p8 32 (fun _=>0#8),p8 32 (fun _=>0#8),p4 (0#32),p4 (0#32),p4 (0#32),p4 (0#32),p4 (0#32),p4 (0#32),p8 32 (fun _=>0#8),p8 32 (fun _=>0#8),p4 (0#32),p8 64 (fun _=>0#8),p1 (.slice none 0 0),p1 (.slice none 0 0),p1 (.slice none 0 0),p1 (VN 2)]) Ev (by decide) Ak rr rr (.one [p8 16 (fun _=>0#8),p8 32 (fun _=>0#8),p8 32 (fun _=>0#8),p8 32 (fun _=>0#8),p8 32 (fun _=>0#8),p8 32 (fun _=>0#8),p8 32 (fun _=>0#8),p4 (0#32),p4 (0#32),p4 (0#32),p4 (0#32),p4 (0#32),p4 (0#32),p8 32 (fun _=>0#8),p8 32 (fun _=>0#8),p4 (0#32),p8 64 (fun _=>0#8),p8 16 (fun _=>0#8),p8 32 (fun _=>0#8),p8 32 (fun _=>0#8),p8 32 (fun _=>0#8),p8 32 (fun _=>0#8),p8 32 (fun _=>0#8),p8 32 (fun _=>0#8),p4 (0#32),p4 (0#32),p4 (0#32),p4 (0#32),p4 (0#32),p4 (0#32),p8 32 (fun _=>0#8),p8 32 (fun _=>0#8),p4 (0#32),p8 64 (fun _=>0#8),p1 (.slice none 0 0),p1 (.slice none 0 0),p1 (.slice none 0 0)] [] (fun _=>VN 0) (by kernel_rfl) rr .nil) ?_
 refine bp Y rr rr ae.nil fun f4 i8 i9 F=>?_
 simp only [ao,Nat.zero_add,Nat.reduceAdd,ah,ai] at F
 refine cA rr rr<|aa.fin Z ?_;clear Z
 refine ad fun _ am=>ag 8 157 ?_
 refine aP F 39 rr rr rr ba ?_
 obtain ⟨f5,f6,f7,f8,d⟩:=d
 refine aw rQ (ru (iG3:=iG3+40) y f8 F) ?_
 rintro _ jd ⟨rfl,f9⟩
 refine ⟨_,rr,.inr ⟨rr,?_⟩⟩
 refine bK rr rr<|b5 rr rr rr<|gb rr rr rr ?_
 refine aa.alloc f9 rr iY ae.nil fun jp kk kw ap=>?_
 simp only [ao,Nat.zero_add,Nat.reduceAdd,ah,ai] at ap
 refine bA (ps:= [p8 32 f5,p8 32 f6]) ap rr rr rr (.cons 0 rr (.cons 1 rr .nil)) ⟨fun _ _=>rr,fun _ _=>rr,trivial⟩ iA (av.keep ae.nil) fun lc G=>?_
 simp only [ah,ai,aq,ar] at G
 refine a8 rr rr<|aa.fin am ?_;clear am
 refine ad fun _ a0=>ag 8 157 ?_
 refine aP G 41 rr rr rr ba ?_
 obtain ⟨f',gc,gd,ge,d⟩:=d
 refine aw rQ (ru (iG3:=iG3+42) y ge G) ?_
 rintro _ ld ⟨rfl,go⟩
 refine ⟨_,rr,.inr ⟨rr,?_⟩⟩
 refine bK rr rr<|b5 rr rr rr<|gb rr rr rr ?_
 refine aa.alloc go rr iY ae.nil fun le li lm a2=>?_
 simp only [ao,Nat.zero_add,Nat.reduceAdd,ah,ai] at a2
 refine bA (ps:= [p8 32 f',p8 32 gc]) a2 rr rr rr (.cons 0 rr (.cons 1 rr .nil)) ⟨fun _ _=>rr,fun _ _=>rr,trivial⟩ iA (av.keep ae.nil) fun lo f=>?_
 simp only [ah,ai,aq,ar] at f
 refine a8 rr rr<|aa.fin a0 ?_;clear a0
 refine ad fun _ a3=>ad fun _ m=>?_
 refine ag 6 63 ?_
 by_cases n:f7=true
 ·
  replace d:=aA d n
  refine a_ (b:=true) rr (congrArg Value.bool n)<|ns rr rr<|a_ rr rr<|a_ rr rr<|aa.not rr rr<|ca rr rr rr<|aa.fin m ?_;clear m
  by_cases o:gd=true
  ·
   replace d:=aA d o
   refine aO (congrArg Value.bool (congrArg Bool.not o)) ?_
   refine W.skip ?_
   refine a3 _ _ ?_;clear a3
   refine ad fun _ a4=>ag 13 5055 ?_
   refine aP f 43 rr rr rr ba<|aP f 42 rr rr rr hJ ?_
   refine gu (ps:= [p8 64 (an (fun _=>0#8) 0 (7#8))]) dX mM rr rr (by kernel_rfl) ?_
   refine bO f rr rr (.cons 2 rr (.cons 3 rr .nil)) iV<|aa.fieldAddr 32 ub rr rr<|aP f 1 rr rr rr ba ?_
   obtain ⟨q,a5,a9,be,bi,bv,cc,h,cd,ce,ci,cl,co,cs,c1,c2,dl,k,gs,d⟩:=d
   refine aw FT (CD (iG1:=iG1+44) f1 (iG2:=iG2+44) f2 (iG3:=iG3+44) y gs f) ?_
   rintro _ ls ⟨rfl,gt⟩
   refine ⟨_,rr,.inr ⟨rr,?_⟩⟩
   refine bK rr rr<|b5 rr rr rr<|b' rr rr rr ?_
   refine aa.alloc gt rr eu ae.nil fun lt lw md ds=>?_
   simp only [ao,Nat.zero_add,Nat.reduceAdd,ah,ai] at ds
   refine bA (ps:= [p8 16 q,p8 32 a5,p8 32 a9,p8 32 be,p8 32 bi,p8 32 bv,p8 32 cc,p4 h,p4 cd,p4 ce,p4 ci,p4 cl,p4 co,p8 32 cs,p8 32 c1,p4 c2,p8 64 dl]) ds rr rr rr (cj.run 0) ⟨fun _ _=>rr,fun _ _=>rr,fun _ _=>rr,fun _ _=>rr,fun _ _=>rr,fun _ _=>rr,fun _ _=>rr,fun _ _=>rr,fun _ _=>rr,fun _ _=>rr,fun _ _=>rr,fun _ _=>rr,fun _ _=>rr,fun _ _=>rr,fun _ _=>rr,fun _ _=>rr,fun _ _=>rr,trivial⟩ (by kernel_rfl) (av.keep ae.nil) fun mp g=>?_
   simp only [ao,List.take_succ_cons,List.take_zero,List.drop_succ_cons,List.drop_zero,List.length_cons,List.length_nil,Nat.zero_add,Nat.reduceAdd,List.cons_append,List.nil_append] at g
   refine ak rr rr<|aa.fin a4 ?_;clear a4
   refine ad fun _ d0=>ad fun _ i=>?_
   refine ag 13 8191 ?_
   refine aj rr rr ?_
   by_cases s:k≠0
   ·
    replace d:=aA d s
    refine bI (a:=(((k:Nat):Int):Int)) (b:=(0:Int)) (p:=k≠0) (v:=true) rr rr rr rr cm (decide_eq_true s)<|a_ rr rr<|al rr<|al rr<|al rr<|b0 rr rr rr<|a_ rr rr<|al rr ?_
    refine al rr<|al rr<|al rr<|b0 rr rr rr<|aa.fin i ?_;clear i
    refine aG rr ?_
    refine ad fun _ d1=>ag 2 3 ?_
    refine cA rr rr<|a8 rr rr<|aa.fin d1 ?_;clear d1
    refine W.ret (a' (aB ?_))
    have d2:=St.aF (C:= [_,_,_,_,_,_,_,_,_,_,_,_,_,_,_,_,_,_,_,_,_,_,_,_,_,_,_,_,_,_,_,_,_,_,_,_,_,_,_,_,_,_,_,_,_,_,_,_,_,_,_,_,_,_,_,_,_,_,_,_,_]) g [] (by decide)
    simp only [pick,aL,aK,aM,aJ,ah,ai] at d2
    subst r
    refine ax.mk (.fk rr (.b2 rr .nil)) ?_
    exact ⟨[],rr,d2⟩
   ·
    replace d:=az d s
    refine bI (a:=(((k:Nat):Int):Int)) (b:=(0:Int)) (p:=k≠0) (v:=false) rr rr rr rr cm (decide_eq_false s)<|a_ rr rr<|aa.fieldAddr 208 gz rr rr<|aX g 7 rr rr rr (by omega) bf ?_
    by_cases t:h≠1#32
    ·
     replace d:=aA d t
     refine bI (a:=(h.toNat:Int)) (b:=((1#32).toNat:Int)) (p:=h≠1#32) (v:=true) rr rr rr rr eV (decide_eq_true t)<|ca rr rr rr<|a_ rr rr<|al rr<|al rr<|al rr<|al rr<|b0 rr rr rr ?_
     refine aa.fin i ?_;clear i
     refine aG rr ?_
     refine ad fun _ d3=>ag 2 3 ?_
     refine cA rr rr<|a8 rr rr<|aa.fin d3 ?_;clear d3
     refine W.ret (a' (aB ?_))
     have d4:=St.aF (C:= [_,_,_,_,_,_,_,_,_,_,_,_,_,_,_,_,_,_,_,_,_,_,_,_,_,_,_,_,_,_,_,_,_,_,_,_,_,_,_,_,_,_,_,_,_,_,_,_,_,_,_,_,_,_,_,_,_,_,_,_,_]) g [] (by decide)
     simp only [pick,aL,aK,aM,aJ,ah,ai] at d4
     subst r
     refine ax.mk (.fk rr (.b2 rr .nil)) ?_
     exact ⟨[],rr,d4⟩
    ·
     replace d:=az d t
     refine bI (a:=(h.toNat:Int)) (b:=((1#32).toNat:Int)) (p:=h≠1#32) (v:=false) rr rr rr rr eV (decide_eq_false t)<|ca rr rr rr<|a_ rr rr<|bm q2 rr rr<|aP g 0 rr rr rr hJ<|aP g 59 rr rr rr hJ<|s0 (b:=(c9 16 q l)) uM rr rr rr rr<|ca rr rr rr ?_
     refine aa.fin i ?_;clear i
     by_cases u:(c9 16 q l)=true
     ·
      replace d:=aA d u
      refine aO (congrArg Value.bool (congrArg Bool.not u)) ?_
      refine W.skip ?_
      refine d0 _ _ ?_;clear d0
      refine ad fun _ d5=>?_
      refine bd a7 [1,3,5,7,9,10] ?_
      have d6:=g.drew
      refine aD rr rr<|bO d6 rr rr (.cons 0 rr (.cons 1 rr (.cons 2 rr (.cons 3 rr (.cons 4 rr (.cons 5 rr (.cons 6 rr (.cons 7 rr (.cons 8 rr (.cons 9 rr (.cons 10 rr (.cons 11 rr (.cons 12 rr (.cons 13 rr (.cons 14 rr (.cons 15 rr (.cons 16 rr .nil))))))))))))))))) (by kernel_rfl)<|aa.nilCheck rr rr<|bm eS rr rr<|c3 (j:=0) (o':=0) eQ rr rr rr (by omega) rr ?_
      refine bA (ps:= [p8 16 q,p8 32 a5,p8 32 a9,p8 32 be,p8 32 bi,p8 32 bv,p8 32 cc,p4 h,p4 cd,p4 ce,p4 ci,p4 cl,p4 co,p8 32 cs,p8 32 c1,p4 c2,p8 64 dl]) d6 rr rr rr (cj.run 21) ⟨fun _ _=>rr,fun _ _=>rr,fun _ _=>rr,fun _ _=>rr,fun _ _=>rr,fun _ _=>rr,fun _ _=>rr,fun _ _=>rr,fun _ _=>rr,fun _ _=>rr,fun _ _=>rr,fun _ _=>rr,fun _ _=>rr,fun _ _=>rr,fun _ _=>rr,fun _ _=>rr,fun _ _=>rr,trivial⟩ (by kernel_rfl) (av.wait rr) fun ms d7=>?_
      simp only [ao,List.take_succ_cons,List.take_zero,List.drop_succ_cons,List.drop_zero,List.length_cons,List.length_nil,Nat.zero_add,Nat.reduceAdd,List.cons_append,List.nil_append] at d7
      refine aa.fin d5 ?_;clear d5
      refine ad fun _ d8=>?_
      refine bd a7 [1,3,5,7,9,13,15,10,17,18] ?_
      have x:=d7.drew
      refine aD rr rr<|aP x 60 rr rr rr ba<|aP x 59 rr rr rr hJ ?_
      refine gu (ps:= [p8 64 (an (fun _=>0#8) 0 (7#8))]) dX mM rr rr (by kernel_rfl) ?_
      refine bO x rr rr (.cons 17 rr (.cons 18 rr .nil)) iV<|aa.nilCheck rr rr<|bm eS rr rr ?_
      obtain ⟨g0,g2,g3,g5,g6,g7,g9,he,hi,hk,hm,hu,hw,hH,hO,h1,id,ii,d⟩:=d
      refine aw Dw (E4 ii x) ?_
      rintro _ mt ⟨rfl,io⟩
      refine ⟨_,rr,.inr ⟨rr,?_⟩⟩
      refine c3 (j:=1) (o':=343) eQ rr rr rr (by omega) rr ?_
      refine bA (ps:= [p8 16 g0,p8 32 g2,p8 32 g3,p8 32 g5,p8 32 g6,p8 32 g7,p8 32 g9,p4 he,p4 hi,p4 hk,p4 hm,p4 hu,p4 hw,p8 32 hH,p8 32 hO,p4 h1,p8 64 id]) io rr rr rr (cj.run 38) ⟨fun _ _=>rr,fun _ _=>rr,fun _ _=>rr,fun _ _=>rr,fun _ _=>rr,fun _ _=>rr,fun _ _=>rr,fun _ _=>rr,fun _ _=>rr,fun _ _=>rr,fun _ _=>rr,fun _ _=>rr,fun _ _=>rr,fun _ _=>rr,fun _ _=>rr,fun _ _=>rr,fun _ _=>rr,trivial⟩ (by kernel_rfl) (av.keep ae.nil) fun m0 d9=>?_
      simp only [ao,List.take_succ_cons,List.take_zero,List.drop_succ_cons,List.drop_zero,List.length_cons,List.length_nil,Nat.zero_add,Nat.reduceAdd,List.cons_append,List.nil_append] at d9
      refine aa.fin d8 ?_;clear d8
      refine ad fun _ el=>ag 3 7 ?_
      refine aD rr rr<|cA rr rr<|a8 rr rr<|aa.fin el ?_;clear el
      refine W.ret (aB ?_)
      have ip:St B w0 (⟨none,0,0*34,fun _=>undef,true⟩::_) _:=d9.hP (fun _=>undef)
      have is:St B w0 (⟨none,0,0*34,fun _=>undef,true⟩::_) _:=ip.hP (fun _=>undef)
      have it:St B w0 (⟨none,0,0*55,fun _=>undef,true⟩::_) _:=is.hP (fun _=>undef)
      have em:=St.aF (C:= [_,_,_,_,_,_,_,_,_,_,_,_,_,_,_,_,_,_,_,_,_,_,_,_,_,_,_,_,_,_,_,_,_,_,_,_,_,_,_,_,_,_,_,_,_,_,_,_,_,_,_,_,_,_,_,_,_,_,_,_,_,_,_,_]) it [24,25,26,27,28,29,30,31,32,33,34,35,36,37,38,39,40,41,42,43,44,45,46,47,48,49,50,51,52,53,54,55,56,57,58,2,59,1,60,0,61] (by decide)
      simp only [pick,aL,aK,aM,aJ,ah,ai] at em
      subst r
      refine ax.mk (.fk rr (.b2 rr .nil)) ?_
      exact ⟨[],f4,none,none,0,0,(fun _=>undef),none,none,0,0,(fun _=>undef),none,none,0,0,(fun _=>undef),rr,em,LO.nil,LO.nil,LO.nil⟩
     ·
      replace d:=az d u
      refine aG (congrArg Value.bool (congrArg Bool.not (Bool.eq_false_iff.2 u))) ?_
      refine ad fun _ eq=>ag 2 3 ?_
      refine cA rr rr<|a8 rr rr<|aa.fin eq ?_;clear eq
      refine W.ret (a' (aB ?_))
      have es:=St.aF (C:= [_,_,_,_,_,_,_,_,_,_,_,_,_,_,_,_,_,_,_,_,_,_,_,_,_,_,_,_,_,_,_,_,_,_,_,_,_,_,_,_,_,_,_,_,_,_,_,_,_,_,_,_,_,_,_,_,_,_,_,_,_]) g [] (by decide)
      simp only [pick,aL,aK,aM,aJ,ah,ai] at es
      subst r
      refine ax.mk (.fk rr (.b2 rr .nil)) ?_
      exact ⟨[],rr,es⟩
  ·
   replace d:=az d o
   refine aG (congrArg Value.bool (congrArg Bool.not (Bool.eq_false_iff.2 o))) ?_
   refine ad fun _ ex=>ag 2 3 ?_
   refine cA rr rr<|a8 rr rr<|aa.fin ex ?_;clear ex
   refine W.ret (a' (aB ?_))
   have fd:=St.aF (C:= [_,_,_,_,_,_,_,_,_,_,_,_,_,_,_,_,_,_,_,_,_,_,_,_,_,_,_,_,_,_,_,_,_,_,_,_,_,_,_,_,_,_,_,_]) f [] (by decide)
   simp only [pick,aL,aK,aM,aJ,ah,ai] at fd
   subst r
   refine ax.mk (.fk rr (.b2 rr .nil)) ?_
   exact ⟨[],rr,fd⟩
 ·
  replace d:=az d n
  refine a_ (b:=false) rr (congrArg Value.bool (Bool.eq_false_iff.2 n))<|l9 rr rr<|a_ rr rr<|al rr<|al rr<|b0 rr rr rr<|aa.fin m ?_;clear m
  refine aG rr ?_
  refine ad fun _ fn=>ag 2 3 ?_
  refine cA rr rr<|a8 rr rr<|aa.fin fn ?_;clear fn
  refine W.ret (a' (aB ?_))
  have f0:=St.aF (C:= [_,_,_,_,_,_,_,_,_,_,_,_,_,_,_,_,_,_,_,_,_,_,_,_,_,_,_,_,_,_,_,_,_,_,_,_,_,_,_,_,_,_,_,_]) f [] (by decide)
  simp only [pick,aL,aK,aM,aJ,ah,ai] at f0
  subst r
  refine ax.mk (.fk rr (.b2 rr .nil)) ?_
  exact ⟨[],rr,f0⟩
set_option maxRecDepth 8000 in
set_option maxHeartbeats 16000000 in
theorem qq {B:Nat} {w0:aC} {w:World} {L:List Rg} {c:Int} {r:(List af)} (f:jN c r) (o:St B w0 (L) w):
  Calls Tryz.prog 30 #[.int .i64 c] w fun e w'=>∃h:Option Addr,∃i:Option Nat,∃j g:Nat,∃k:Nat→af,e= .returned (.slice h j g)∧St B w0 (gO i g k::L) w'∧Ow h i j g k r:=by
 refine W.enter 9 Tryz.func30 rr rr rr ?_
 unfold jN at f
 refine ad fun _ l=>ag 1 1 ?_
 refine aV rr rr<|aa.fin l ?_;clear l
 refine ad fun _ m=>ag 7 95 ?_
 refine aj rr rr<|hQ .u8 (a:=c) cw e_ rr rr<|aj rr rr ?_
 obtain ⟨p,f⟩:=f
 refine lp (a:=c) (b:=256) rr rr rr (by omega) p<|hQ .u8 (a:=(c.tdiv 256)) cw e_ rr rr ?_
 refine aa.buildSlice o (ps:= [p8 2 (lit ([(BitVec.ofInt 8 c),(BitVec.ofInt 8 (c.tdiv 256))]:List af))]) cq bJ df (by decide) (by decide) rr rr rr (av.keep ae.nil) fun d t u n=>?_
 simp only [ao,List.cons_append,List.nil_append] at n
 have s:Ow (some ⟨d,0,none⟩) (some d) ([(BitVec.ofInt 8 c),(BitVec.ofInt 8 (c.tdiv 256))]:List af).length 2 (lit ([(BitVec.ofInt 8 c),(BitVec.ofInt 8 (c.tdiv 256))]:List af)) ([(BitVec.ofInt 8 c),(BitVec.ofInt 8 (c.tdiv 256))]:List af):=⟨.inr ⟨d,rfl,rfl⟩,Nat.le_refl _,rfl,fun q _=>rfl⟩
 refine aV rr rr<|aa.fin m ?_;clear m
 refine W.ret (aB ?_)
 subst r
 refine ax.mk (.bD rr .nil) ?_
 exact ⟨some ⟨d,0,none⟩,some d,([(BitVec.ofInt 8 c),(BitVec.ofInt 8 (c.tdiv 256))]:List af).length,2,(lit ([(BitVec.ofInt 8 c),(BitVec.ofInt 8 (c.tdiv 256))]:List af)),rr,n,s⟩
set_option maxRecDepth 8000 in
set_option maxHeartbeats 16000000 in
theorem xO {B:Nat} {w0:aC} {w:World} {L:List Rg} {iG1:Nat} (t2:gT L iG1 1 8 .u32 cH) {iG2:Nat} (t3:gT L iG2 2 64 .u32 bE) {iG1000:Nat} (Ia:gV L iG1000 0 0 (VN 0)) {iG1001:Nat} (Ib:gV L iG1001 0 1 (VN 0)) {iG1002:Nat} (Ic:gV L iG1002 0 2 (VN 64)) {iG1003:Nat} (Id:gV L iG1003 0 3 (VN 256)) {iG1004:Nat} (Ie:gV L iG1004 0 4 (VN 0)) {iG1005:Nat} (bv:gV L iG1005 0 5 (VU .u32 1000#32)) {LP:List Rg} (i3:∀r∈LP,r∈L) {c:Nat} {d7 d8 d9 el em eq es:K8} {I ex a3 fd fn f0:U4} {f1 f2:K8} {f3:U4} {f4 f5 f6 f7 f8 f9 f' dS:K8} {J dY a4 gc gd ge:U4} {go gs:K8} {gt:U4} {g0:K8} {O:aZ} {P:Option Addr} {Q:Option Nat} {t4 s:Nat} {R:Nat→Value} (ce:LO bB [] P Q t4 s R O) {S:aZ} {T:Option Addr} {U:Option Nat} {t5 t:Nat} {V:Nat→Value} (ci:LO bB [] T U t5 t V S) {l:cI} {Z:Option Addr} {am:Option Nat} {t6 u:Nat} {ap:Nat→Value} (cl:LO (dp.at LP) [] Z am t6 u ap l) {d1 i4:Int} {co:List af} {m0:Option Addr} {t7 m1 t8:Nat} (m2:Bx L t8 m0 t7 m1 co) {r:(Bool×K8×K8×K8×K8×K8×K8×K8×U4×U4×U4×U4×U4×U4×K8×K8×U4×K8×K8×K8×K8×K8×K8×K8×K8×U4×U4×U4×U4×U4×U4×K8×K8×U4×K8×(aZ)×(aZ)×(cI))} (d:l8 d7 d8 d9 el em eq es I ex a3 fd fn f0 f1 f2 f3 f4 f5 f6 f7 f8 f9 f' dS J dY a4 gc gd ge go gs gt g0 O S l d1 i4 co r) (t9:St B w0 (g8 c 0 16 d7::g8 c 16 32 d8::g8 c 48 32 d9::g8 c 80 32 el::g8 c 112 32 em::g8 c 144 32 eq::g8 c 176 32 es::g4 c 208 I::g4 c 209 ex::g4 c 210 a3::g4 c 211 fd::g4 c 212 fn::g4 c 213 f0::g8 c 214 32 f1::g8 c 246 32 f2::g4 c 278 f3::g8 c 279 64 f4::g8 c 343 16 f5::g8 c 359 32 f6::g8 c 391 32 f7::g8 c 423 32 f8::g8 c 455 32 f9::g8 c 487 32 f'::g8 c 519 32 dS::g4 c 551 J::g4 c 552 dY::g4 c 553 a4::g4 c 554 gc::g4 c 555 gd::g4 c 556 ge::g8 c 557 32 go::g8 c 589 32 gs::g4 c 621 gt::g8 c 622 64 g0::g1 c 686 (.slice P t4 s)::gL Q (s*34) R::g1 c 687 (.slice T t5 t)::gL U (t*34) V::g1 c 688 (.slice Z t6 u)::gL am (u*55) ap::g1 c 689 (.int .i64 d1)::L) w):
  Calls Tryz.prog 12 #[pt c 0,.int .i64 i4,.slice m0 t7 m1] w fun e w'=>∃C:List Rg,∃t':Option Addr,∃ul:Option Nat,∃un m3:Nat,∃up:Nat→Value,∃us:Option Addr,∃ut:Option Nat,∃u8 m4:Nat,∃vs:Nat→Value,∃v0:Option Addr,∃v1:Option Nat,∃v2 m5:Nat,∃v3:Nat→Value,e= .returned (.bool r.1)∧St B w0 (g8 c 0 16 r.2.1::g8 c 16 32 r.2.2.1::g8 c 48 32 r.2.2.2.1::g8 c 80 32 r.2.2.2.2.1::g8 c 112 32 r.2.2.2.2.2.1::g8 c 144 32 r.2.2.2.2.2.2.1::g8 c 176 32 r.2.2.2.2.2.2.2.1::g4 c 208 r.2.2.2.2.2.2.2.2.1::g4 c 209 r.2.2.2.2.2.2.2.2.2.1::g4 c 210 r.2.2.2.2.2.2.2.2.2.2.1::g4 c 211 r.2.2.2.2.2.2.2.2.2.2.2.1::g4 c 212 r.2.2.2.2.2.2.2.2.2.2.2.2.1::g4 c 213 r.2.2.2.2.2.2.2.2.2.2.2.2.2.1::g8 c 214 32 r.2.2.2.2.2.2.2.2.2.2.2.2.2.2.1::g8 c 246 32 r.2.2.2.2.2.2.2.2.2.2.2.2.2.2.2.1::g4 c 278 r.2.2.2.2.2.2.2.2.2.2.2.2.2.2.2.2.1::g8 c 279 64 r.2.2.2.2.2.2.2.2.2.2.2.2.2.2.2.2.2.1::g8 c 343 16 r.2.2.2.2.2.2.2.2.2.2.2.2.2.2.2.2.2.2.1::g8 c 359 32 r.2.2.2.2.2.2.2.2.2.2.2.2.2.2.2.2.2.2.2.1::g8 c 391 32 r.2.2.2.2.2.2.2.2.2.2.2.2.2.2.2.2.2.2.2.2.1::g8 c 423 32 r.2.2.2.2.2.2.2.2.2.2.2.2.2.2.2.2.2.2.2.2.2.1::g8 c 455 32 r.2.2.2.2.2.2.2.2.2.2.2.2.2.2.2.2.2.2.2.2.2.2.1::g8 c 487 32 r.2.2.2.2.2.2.2.2.2.2.2.2.2.2.2.2.2.2.2.2.2.2.2.1::g8 c 519 32 r.2.2.2.2.2.2.2.2.2.2.2.2.2.2.2.2.2.2.2.2.2.2.2.2.1::g4 c 551 r.2.2.2.2.2.2.2.2.2.2.2.2.2.2.2.2.2.2.2.2.2.2.2.2.2.1::g4 c 552 r.2.2.2.2.2.2.2.2.2.2.2.2.2.2.2.2.2.2.2.2.2.2.2.2.2.2.1::g4 c 553 r.2.2.2.2.2.2.2.2.2.2.2.2.2.2.2.2.2.2.2.2.2.2.2.2.2.2.2.1::g4 c 554 r.2.2.2.2.2.2.2.2.2.2.2.2.2.2.2.2.2.2.2.2.2.2.2.2.2.2.2.2.1::g4 c 555 r.2.2.2.2.2.2.2.2.2.2.2.2.2.2.2.2.2.2.2.2.2.2.2.2.2.2.2.2.2.1::g4 c 556 r.2.2.2.2.2.2.2.2.2.2.2.2.2.2.2.2.2.2.2.2.2.2.2.2.2.2.2.2.2.2.1::g8 c 557 32 r.2.2.2.2.2.2.2.2.2.2.2.2.2.2.2.2.2.2.2.2.2.2.2.2.2.2.2.2.2.2.2.1::g8 c 589 32 r.2.2.2.2.2.2.2.2.2.2.2.2.2.2.2.2.2.2.2.2.2.2.2.2.2.2.2.2.2.2.2.2.1::g4 c 621 r.2.2.2.2.2.2.2.2.2.2.2.2.2.2.2.2.2.2.2.2.2.2.2.2.2.2.2.2.2.2.2.2.2.1::g8 c 622 64 r.2.2.2.2.2.2.2.2.2.2.2.2.2.2.2.2.2.2.2.2.2.2.2.2.2.2.2.2.2.2.2.2.2.2.1::g1 c 686 (.slice t' un m3)::gL ul (m3*34) up::g1 c 687 (.slice us u8 m4)::gL ut (m4*34) vs::g1 c 688 (.slice v0 v2 m5)::gL v1 (m5*55) v3::g1 c 689 (.int .i64 d1)::(C ++L)) w'∧LO bB [] t' ul un m3 up r.2.2.2.2.2.2.2.2.2.2.2.2.2.2.2.2.2.2.2.2.2.2.2.2.2.2.2.2.2.2.2.2.2.2.2.1∧LO bB [] us ut u8 m4 vs r.2.2.2.2.2.2.2.2.2.2.2.2.2.2.2.2.2.2.2.2.2.2.2.2.2.2.2.2.2.2.2.2.2.2.2.2.1∧LO (dp.at (C ++LP)) [] v0 v1 v2 m5 v3 r.2.2.2.2.2.2.2.2.2.2.2.2.2.2.2.2.2.2.2.2.2.2.2.2.2.2.2.2.2.2.2.2.2.2.2.2.2:=by
 refine W.enter 119 Tryz.func12 rr rr rr ?_
 unfold l8 at d
 have d2:dB L LP L LP:=dB.refl _ _
 have Hu:=ce.hl;subst Hu
 have Hv:=ci.hl;subst Hv
 have Hw:=cl.hl;subst Hw
 have Hx:=m2.hl;subst Hx
 refine ad fun _ v4=>ag 1 1 ?_
 refine a8 rr rr<|aa.fin v4 ?_;clear v4
 refine ad fun _ v5=>?_
 obtain ⟨f,Hy,Hz⟩:=d
 refine bq (fun e w=>∃g2:List af,(f=g2)∧∃cs:Option Addr,∃c1:Nat,aU e [(0,pt c 0),(1,.int .i64 i4),(2,.slice cs g2.length c1)]∧St B w0 (g8 c 0 16 d7::g8 c 16 32 d8::g8 c 48 32 d9::g8 c 80 32 el::g8 c 112 32 em::g8 c 144 32 eq::g8 c 176 32 es::g4 c 208 I::g4 c 209 ex::g4 c 210 a3::g4 c 211 fd::g4 c 212 fn::g4 c 213 f0::g8 c 214 32 f1::g8 c 246 32 f2::g4 c 278 f3::g8 c 279 64 f4::g8 c 343 16 f5::g8 c 359 32 f6::g8 c 391 32 f7::g8 c 423 32 f8::g8 c 455 32 f9::g8 c 487 32 f'::g8 c 519 32 dS::g4 c 551 J::g4 c 552 dY::g4 c 553 a4::g4 c 554 gc::g4 c 555 gd::g4 c 556 ge::g8 c 557 32 go::g8 c 589 32 gs::g4 c 621 gt::g8 c 622 64 g0::g1 c 686 (.slice P O.length s)::gL Q (s*34) R::g1 c 687 (.slice T S.length t)::gL U (t*34) V::g1 c 688 (.slice Z l.length u)::gL am (u*55) ap::g1 c 689 (.int .i64 d1)::L) w∧Bx L t8 cs g2.length c1 g2) ?_ ?_
 ·
  replace d:=Hy
  refine ad fun _ v6=>ag 3 7 ?_
  refine aE rr rr<|aa.len cB rr rr<|aR (a:=(((co.length:Nat):Int):Int)) (b:=(40:Int)) (p:=40 < co.length) rr rr rr rr dL<|aa.fin v6 ?_;clear v6
  by_cases i5:40 < co.length
  ·
   replace d:=aA d i5
   refine aG (congrArg Value.bool (decide_eq_true i5)) ?_
   refine ag 3 7 ?_
   refine aE rr rr ?_
   obtain ⟨HA,d⟩:=d
   refine e6 (lo:=0) (hi:=40) m2 b4 rr rr rr ⟨_,rr⟩ HA fun a53 HB HC=>?_
   refine aV rr rr<|aa.nil ?_
   exact ⟨(aT co 0 40),d,a53,HB,(ab (ab (ab au))),t9,HC⟩
  ·
   replace d:=az d i5
   refine aO (congrArg Value.bool (decide_eq_false i5)) ?_
   refine W.skip ?_
   exact ⟨co,d,m0,m1,(ab (ab (ab au))),t9,m2⟩
 ·
  rintro HD If ⟨g2,HE,cs,c1,HF,v9,i6⟩
  subst HE
  obtain ⟨HD,rfl⟩:=HF.open
  replace d:=Hz
  refine v5 _ _ ?_;clear v5
  refine ad fun _ i7=>?_
  by_cases m6:i4=0
  ·
   replace d:=aA d m6
   subst m6
   refine fy (B:=B) (L:=L) a7 [⟨21,7,35,[p8 16 (fun _=>0#8),p8 32 (fun _=>0#8),p8 32 (fun _=>0#8),p8 32 (fun _=>0#8),p8 32 (fun _=>0#8),p8 32 (fun _=>0#8),p8 32 (fun _=>0#8),p4 (0#32),p4 (0#32),p4 (0#32),p4 (0#32),p4 (0#32),p4 (0#32),p8 32 (fun _=>0#8),p8 32 (fun _=>0#8),p4 (0#32),p8 64 (fun _=>0#8)]⟩,⟨22,8,43,[p8 16 (fun _=>0#8),p4 (0#32),p8 32 (fun _=>0#8),p4 (0#32),p4 (0#32)]⟩] (dg [1,3,5,7,9,11,13,15,17,19,21,23,25,27]) [(dg [28]),(dg [30,33,35,37,39,41])] (dg [46,48,51,53]) (by kernel_rfl) (by kernel_rfl) (.cons eu (.cons ik .nil)) ?_
   have i8:=v9.drew
   refine aD rr rr<|aj rr rr<|aa.nilCheck rr rr<|bm eS rr rr<|c3 (j:=0) (o':=0) eQ rr rr rr (by omega) rr<|bO i8 rr rr (.cons 0 rr (.cons 1 rr (.cons 2 rr (.cons 3 rr (.cons 4 rr (.cons 5 rr (.cons 6 rr (.cons 7 rr (.cons 8 rr (.cons 9 rr (.cons 10 rr (.cons 11 rr (.cons 12 rr (.cons 13 rr (.cons 14 rr (.cons 15 rr (.cons 16 rr .nil))))))))))))))))) (by kernel_rfl)<|aa.fieldAddr 5 jD rr rr<|aX i8 (iG1005+41) rr rr bv (by omega) bf ?_
   refine aE rr rr<|aD rr rr<|aa.nilCheck rr rr<|aa.fieldAddr 688 hn rr rr<|aX i8 38 rr rr rr (by omega) iR<|aa.len oe rr rr ?_
   refine aa.nil ⟨_,[_,_,_,_,_,_,_,_,_,_,_,_,_,_,_,_,_,_,_,_,_,_,_,_,_,_,_,_,_,_,_,_,_,_,_,_,_,_,_,_,_],i8,(ae.cons 38 rr (ae.cons (iG1005+41) bv (ae.parts (.cons 0 rr (.cons 1 rr (.cons 2 rr (.cons 3 rr (.cons 4 rr (.cons 5 rr (.cons 6 rr (.cons 7 rr (.cons 8 rr (.cons 9 rr (.cons 10 rr (.cons 11 rr (.cons 12 rr (.cons 13 rr (.cons 14 rr (.cons 15 rr (.cons 16 rr .nil))))))))))))))))) ae.nil))),?_⟩
   refine PX.step fun wd z58 Ig wf=>?_
   simp only [ah,ai] at wf
   obtain ⟨Ih,HG,d⟩:=d
   refine aw qw (qq HG wf) ?_
   rintro _ Ii ⟨Ij,Ik,Il,Im,In,rfl,wl,wn⟩
   obtain rfl:=wn.hl
   refine ⟨_,rr,.inl ⟨ae.keep (by exact (ae.cons 39 rr (ae.cons ((iG1005+wd.length)+42) (c_ bv wd) (ae.parts (.cons 1 rr (.cons 2 rr (.cons 3 rr (.cons 4 rr (.cons 5 rr (.cons 6 rr (.cons 7 rr (.cons 8 rr (.cons 9 rr (.cons 10 rr (.cons 11 rr (.cons 12 rr (.cons 13 rr (.cons 14 rr (.cons 15 rr (.cons 16 rr (.cons 17 rr .nil))))))))))))))))) ae.nil)))) wl,?_⟩⟩
   refine aa.nil ⟨_,[_,_,_,_,_,_,_,_,_,_,_,_,_,_,_,_,_,_,_,_,_,_,_,_,_,_,_,_,_,_,_,_,_,_,_,_,_,_,_,_,_,_],wl,(ae.cons 39 rr (ae.cons (iG1005+42) bv (ae.parts (.cons 1 rr (.cons 2 rr (.cons 3 rr (.cons 4 rr (.cons 5 rr (.cons 6 rr (.cons 7 rr (.cons 8 rr (.cons 9 rr (.cons 10 rr (.cons 11 rr (.cons 12 rr (.cons 13 rr (.cons 14 rr (.cons 15 rr (.cons 16 rr (.cons 17 rr .nil))))))))))))))))) ae.nil))),?_⟩
   refine PX.step fun g3 z67 Io wp=>?_
   simp only [ah,ai] at wp
   obtain ⟨m7,m8,m9,m',ne,nl,no,n5,n6,d3,n7,n8,ok,ol,on,op,os,z,m,A,E,g,a5,c2,HH,d⟩:=d
   refine dm uz (vo (iG1:=(iG1+g3.length)+42) (c_ t2 g3) (iG2:=(iG2+g3.length)+42) (c_ t3 g3) ((i6.app g3).app [_,_,_,_,_,_,_,_,_,_,_,_,_,_,_,_,_,_,_,_,_,_,_,_,_,_,_,_,_,_,_,_,_,_,_,_,_,_,_,_,_,_]) (by exact (wn.bx 0 rr)) HH wp) ?_
   rintro _ Ip ⟨g5,g6,Iq,g7,g9,rfl,wr,dl⟩
   try dsimp only at dl
   obtain rfl:=dl.hl
   refine ⟨_,rr,_,_,_,_,wr,(by exact (av.mix _ (aH.keep rr (aH.drop rr (aH.drop rr aH.nil))) (ae.cons 40 rr ae.nil))),?_⟩
   refine bK rr rr<|b5 rr rr rr<|b5 rr rr rr<|dh rr rr rr<|b' rr rr rr ?_
   refine aa.nil ⟨_,[_,_,_,_,_,_,_,_,_,_,_,_,_,_,_,_,_,_,_,_,_,_,_,_,_,_,_,_,_,_,_,_,_,_,_,_,_,_,_,_,_,_,_],wr,(ae.cons 40 rr ae.nil),?_⟩
   refine PX.done (KE.step fun o=>(KE.step fun d4=>(KE.fin fun Ir ws=>?_)))
   simp only [ao,Nat.zero_add,Nat.reduceAdd,ah,ai] at ws
   refine bA (ps:= [p8 16 m7,p8 32 m8,p8 32 m9,p8 32 m',p8 32 ne,p8 32 nl,p8 32 no,p4 n5,p4 n6,p4 d3,p4 n7,p4 n8,p4 ok,p8 32 ol,p8 32 on,p4 op,p8 64 os]) ws rr rr rr (cj.run 43) ⟨fun _ _=>rr,fun _ _=>rr,fun _ _=>rr,fun _ _=>rr,fun _ _=>rr,fun _ _=>rr,fun _ _=>rr,fun _ _=>rr,fun _ _=>rr,fun _ _=>rr,fun _ _=>rr,fun _ _=>rr,fun _ _=>rr,fun _ _=>rr,fun _ _=>rr,fun _ _=>rr,fun _ _=>rr,trivial⟩ (by kernel_rfl) (av.wait rr) fun Iu wt=>?_
   simp only [ao,List.take_succ_cons,List.take_zero,List.drop_succ_cons,List.drop_zero,List.length_cons,List.length_nil,Nat.zero_add,Nat.reduceAdd,List.cons_append,List.nil_append] at wt
   refine bA (ps:= [p8 16 z,p4 m,p8 32 A,p4 E,p4 g]) wt rr rr rr (.cons 60 rr (.cons 61 rr (.cons 62 rr (.cons 63 rr (.cons 64 rr .nil))))) ⟨fun _ _=>rr,fun _ _=>rr,fun _ _=>rr,fun _ _=>rr,fun _ _=>rr,trivial⟩ iw (av.keep ae.nil) fun Iv i9=>?_
   simp only [ah,ai,aq,ar] at i9
   refine aV rr rr<|ak rr rr<|aa.fin i7 ?_;clear i7
   refine ad fun _ ww=>ad fun _ xs=>?_
   refine ag 8 255 ?_
   refine aD rr rr<|aj rr rr<|aa.nilCheck rr rr<|bm eS rr rr<|c3 (j:=0) (o':=0) eQ rr rr rr (by omega) rr<|aa.fieldAddr 208 gz rr rr<|aX i9 9 rr rr rr (by omega) bf<|aR (a:=(I.toNat:Int)) (b:=((0#32).toNat:Int)) (p:=I=0#32) rr rr rr rr ih ?_
   refine aa.fin xs ?_;clear xs
   by_cases jd:I=0#32
   ·
    replace d:=aA d jd
    refine aG (congrArg Value.bool (decide_eq_true jd)) ?_
    refine ad fun _ zf=>ag 3 7 ?_
    refine aj rr rr<|aR (a:=(((c2:Nat):Int):Int)) (b:=(165:Int)) (p:=c2=165) rr rr rr rr fL<|a8 rr rr<|aa.fin zf ?_;clear zf
    refine W.ret (a' (aB ?_))
    have z0:=St.aF (C:= [_,_,_,_,_,_,_,_,_,_,_,_,_,_,_,_,_,_,_,_,_,_,_,_,_,_,_,_,_,_,_,_,_,_,_,_,_,_,_,_,_,_,_,_,_,_,_,_,_,_,_,_,_,_,_,_,_,_,_,_,_,_,_,_,_]) i9 [2,3,4,5,6,7,8,9,10,11,12,13,14,15,16,17,18,19,20,21,22,23,24,25,26,27,28,29,30,31,32,33,34,35,36,37,38,39,40,41,42] (by decide)
    simp only [pick,aL,aK,aM,aJ,ah,ai] at z0
    subst r
    refine ax.mk (.b2 rr .nil) ?_
    exact ⟨[],P,Q,O.length,s,R,T,U,S.length,t,V,Z,am,l.length,u,ap,rr,z0,ce,ci,cl⟩
   ·
    replace d:=az d jd
    refine aO (congrArg Value.bool (decide_eq_false jd)) ?_
    refine W.skip ?_
    refine ww _ _ ?_;clear ww
    refine ad fun _ z1=>ad fun _ z2=>?_
    obtain ⟨x,t140,HI,HJ⟩:=d
    refine bq (fun e w=>∃he:List af,∃pi:Bool,(x=he∧t140=pi)∧∃be:Option Addr,∃hk:Option Nat,∃K:Nat,∃hm:Nat→af,aU e [(0,pt c 0),(1,VN 0),(2,.slice cs f.length c1),(7,pt o 0),(8,pt d4 0),(9,.slice be he.length K),(89,.bool pi)]∧St B w0 (gO hk K hm::g8 c 0 16 d7::g8 c 16 32 d8::g8 c 48 32 d9::g8 c 80 32 el::g8 c 112 32 em::g8 c 144 32 eq::g8 c 176 32 es::g4 c 208 I::g4 c 209 ex::g4 c 210 a3::g4 c 211 fd::g4 c 212 fn::g4 c 213 f0::g8 c 214 32 f1::g8 c 246 32 f2::g4 c 278 f3::g8 c 279 64 f4::g8 c 343 16 f5::g8 c 359 32 f6::g8 c 391 32 f7::g8 c 423 32 f8::g8 c 455 32 f9::g8 c 487 32 f'::g8 c 519 32 dS::g4 c 551 J::g4 c 552 dY::g4 c 553 a4::g4 c 554 gc::g4 c 555 gd::g4 c 556 ge::g8 c 557 32 go::g8 c 589 32 gs::g4 c 621 gt::g8 c 622 64 g0::g1 c 686 (.slice P O.length s)::gL Q (s*34) R::g1 c 687 (.slice T S.length t)::gL U (t*34) V::g1 c 688 (.slice Z l.length u)::gL am (u*55) ap::g1 c 689 (.int .i64 d1)::g8 o 0 16 m7::g8 o 16 32 m8::g8 o 48 32 m9::g8 o 80 32 m'::g8 o 112 32 ne::g8 o 144 32 nl::g8 o 176 32 no::g4 o 208 n5::g4 o 209 n6::g4 o 210 d3::g4 o 211 n7::g4 o 212 n8::g4 o 213 ok::g8 o 214 32 ol::g8 o 246 32 on::g4 o 278 op::g8 o 279 64 os::g8 d4 0 16 z::g4 d4 16 m::g8 d4 17 32 A::g4 d4 49 E::g4 d4 50 g::L) w∧Ow be hk he.length K hm he) ?_ ?_
    ·
     replace d:=HI
     refine bd a7 [1,3,5,7,9,11,13,15,17,19,21,23,25,27,29,31,33,35,37,39,41,43,45,47,49,51,53,55,57,59,61,63,65,67,69,71,73,75,77,79,81,83,85] ?_
     have a0:=i9.drew
     refine aj rr rr ?_
     by_cases jp:c2≠0
     ·
      replace d:=aA d jp
      refine bI (a:=(((c2:Nat):Int):Int)) (b:=(0:Int)) (p:=c2≠0) (v:=true) rr rr rr rr cm (decide_eq_true jp)<|a_ rr rr<|al rr<|al rr<|al rr<|al rr<|al rr<|al rr ?_
      refine b0 rr rr rr<|a_ rr rr<|al rr<|al rr<|al rr<|al rr<|al rr<|al rr ?_
      refine al rr<|al rr<|al rr<|al rr<|b0 rr rr rr<|a_ rr rr<|al rr<|al rr ?_
      refine al rr<|al rr<|al rr<|al rr<|al rr<|al rr<|al rr<|al rr ?_
      refine al rr<|b0 rr rr rr<|a_ rr rr<|al rr<|al rr<|al rr<|al rr<|al rr ?_
      refine al rr<|b0 rr rr rr<|aa.nil ?_
      exact ⟨a5,true,d,g5,g6,g7,g9,(ab (ab (ab (ab (ab (ab (ab au))))))),bt 65 [0,2,3,4,5,6,7,8,9,10,11,12,13,14,15,16,17,18,19,20,21,22,23,24,25,26,27,28,29,30,31,32,33,34,35,36,37,38,39,40,41,42,43,44,45,46,47,48,49,50,51,52,53,54,55,56,57,58,59,60,61,62,63,64] a0,dl⟩
     ·
      replace d:=az d jp
      refine bI (a:=(((c2:Nat):Int):Int)) (b:=(0:Int)) (p:=c2≠0) (v:=false) rr rr rr rr cm (decide_eq_false jp)<|a_ rr rr<|aE rr rr<|aa.len cB rr rr<|aE rr rr<|aa.len cB rr rr ?_
      obtain ⟨Iw,d⟩:=d
      refine bu (a:=f.length) (b:=32) rr rr rr (by omega) ?_
      by_cases kk:a5.length≠(f.length+32)
      ·
       replace d:=aA d kk
       refine bI (a:=(((a5.length:Nat):Int):Int)) (b:=((((f.length+32):Nat):Int):Int)) (p:=a5.length≠(f.length+32)) (v:=true) rr rr rr rr cm (decide_eq_true kk)<|ca rr rr rr<|a_ rr rr<|al rr<|al rr<|al rr<|al rr<|al rr ?_
       refine al rr<|al rr<|al rr<|al rr<|al rr<|b0 rr rr rr<|a_ rr rr<|al rr ?_
       refine al rr<|al rr<|al rr<|al rr<|al rr<|al rr<|al rr<|al rr ?_
       refine al rr<|al rr<|b0 rr rr rr<|a_ rr rr<|al rr<|al rr<|al rr<|al rr ?_
       refine al rr<|al rr<|b0 rr rr rr<|aa.nil ?_
       exact ⟨a5,true,d,g5,g6,g7,g9,(ab (ab (ab (ab (ab (ab (ab au))))))),bt 65 [0,2,3,4,5,6,7,8,9,10,11,12,13,14,15,16,17,18,19,20,21,22,23,24,25,26,27,28,29,30,31,32,33,34,35,36,37,38,39,40,41,42,43,44,45,46,47,48,49,50,51,52,53,54,55,56,57,58,59,60,61,62,63,64] a0,dl⟩
      ·
       replace d:=az d kk
       refine bI (a:=(((a5.length:Nat):Int):Int)) (b:=((((f.length+32):Nat):Int):Int)) (p:=a5.length≠(f.length+32)) (v:=false) rr rr rr rr cm (decide_eq_false kk)<|ca rr rr rr<|a_ rr rr<|aa.fieldAddr 50 gl rr rr<|aX a0 64 rr rr rr (by omega) bf<|aD rr rr<|aj rr rr<|aa.nilCheck rr rr ?_
       refine bm eS rr rr<|c3 (j:=0) (o':=0) eQ rr rr rr (by omega) rr<|aa.fieldAddr 210 gR rr rr<|aX a0 11 rr rr rr (by omega) bf ?_
       by_cases kw:g≠a3
       ·
        replace d:=aA d kw
        refine bI (a:=(g.toNat:Int)) (b:=(a3.toNat:Int)) (p:=g≠a3) (v:=true) rr rr rr rr eV (decide_eq_true kw)<|ca rr rr rr<|a_ rr rr<|al rr<|al rr<|al rr<|al rr<|al rr ?_
        refine al rr<|al rr<|al rr<|al rr<|al rr<|al rr<|b0 rr rr rr<|a_ rr rr ?_
        refine al rr<|al rr<|al rr<|al rr<|al rr<|al rr<|b0 rr rr rr<|aa.nil ?_
        exact ⟨a5,true,d,g5,g6,g7,g9,(ab (ab (ab (ab (ab (ab (ab au))))))),bt 65 [0,2,3,4,5,6,7,8,9,10,11,12,13,14,15,16,17,18,19,20,21,22,23,24,25,26,27,28,29,30,31,32,33,34,35,36,37,38,39,40,41,42,43,44,45,46,47,48,49,50,51,52,53,54,55,56,57,58,59,60,61,62,63,64] a0,dl⟩
       ·
        replace d:=az d kw
        refine bI (a:=(g.toNat:Int)) (b:=(a3.toNat:Int)) (p:=g≠a3) (v:=false) rr rr rr rr eV (decide_eq_false kw)<|ca rr rr rr<|a_ rr rr<|aa.fieldAddr 16 gi rr rr<|aX a0 61 rr rr rr (by omega) bf<|cD .u32 (X:=m) (Y:=1#32) rr rr rr<|aD rr rr<|aj rr rr ?_
        refine aa.nilCheck rr rr<|bm eS rr rr<|c3 (j:=0) (o':=0) eQ rr rr rr (by omega) rr<|aa.fieldAddr 208 gz rr rr<|aX a0 9 rr rr rr (by omega) bf ?_
        by_cases lc:(m+(1#32))≠I
        ·
         replace d:=aA d lc
         refine bI (a:=((m+(1#32)).toNat:Int)) (b:=(I.toNat:Int)) (p:=(m+(1#32))≠I) (v:=true) rr rr rr rr eV (decide_eq_true lc)<|ca rr rr rr<|a_ rr rr<|al rr<|al rr<|al rr<|al rr<|al rr ?_
         refine al rr<|b0 rr rr rr<|aa.nil ?_
         exact ⟨a5,true,d,g5,g6,g7,g9,(ab (ab (ab (ab (ab (ab (ab au))))))),bt 65 [0,2,3,4,5,6,7,8,9,10,11,12,13,14,15,16,17,18,19,20,21,22,23,24,25,26,27,28,29,30,31,32,33,34,35,36,37,38,39,40,41,42,43,44,45,46,47,48,49,50,51,52,53,54,55,56,57,58,59,60,61,62,63,64] a0,dl⟩
        ·
         replace d:=az d lc
         refine bI (a:=((m+(1#32)).toNat:Int)) (b:=(I.toNat:Int)) (p:=(m+(1#32))≠I) (v:=false) rr rr rr rr eV (decide_eq_false lc)<|ca rr rr rr<|a_ rr rr<|aa.fieldAddr 210 gR rr rr<|aX a0 52 rr rr rr (by omega) bf<|aa.fieldAddr 50 gl rr rr<|aX a0 64 rr rr rr (by omega) bf<|cD .u32 (X:=g) (Y:=1#32) rr rr rr ?_
         refine aR (a:=(d3.toNat:Int)) (b:=((g+(1#32)).toNat:Int)) (p:=d3≠(g+(1#32))) rr rr rr rr eV<|ca rr rr rr<|aa.nil ?_
         exact ⟨a5,(decide (d3≠(g+(1#32)))),d,g5,g6,g7,g9,(ab (ab (ab (ab (ab (ab (ab au))))))),bt 65 [0,2,3,4,5,6,7,8,9,10,11,12,13,14,15,16,17,18,19,20,21,22,23,24,25,26,27,28,29,30,31,32,33,34,35,36,37,38,39,40,41,42,43,44,45,46,47,48,49,50,51,52,53,54,55,56,57,58,59,60,61,62,63,64] a0,dl⟩
    ·
     rintro HK Ix ⟨he,pi,⟨HL,HM⟩,be,hk,K,hm,HN,z3,z4⟩
     subst HL
     subst HM
     obtain ⟨HK,rfl⟩:=HN.open
     replace d:=HJ
     refine z2 _ _ ?_;clear z2
     by_cases ld:t140=true
     ·
      replace d:=aA d ld
      refine aG (congrArg Value.bool ld) ?_
      refine ad fun _ z5=>ag 1 1 ?_
      refine a8 rr rr<|aa.fin z5 ?_;clear z5
      refine W.ret (a' (aB ?_))
      have z9:=St.aF (C:= [_,_,_,_,_,_,_,_,_,_,_,_,_,_,_,_,_,_,_,_,_,_,_,_,_,_,_,_,_,_,_,_,_,_,_,_,_,_,_,_,_,_,_,_,_,_,_,_,_,_,_,_,_,_,_,_,_,_,_,_,_,_,_,_]) z3 [1,2,3,4,5,6,7,8,9,10,11,12,13,14,15,16,17,18,19,20,21,22,23,24,25,26,27,28,29,30,31,32,33,34,35,36,37,38,39,40,41] (by decide)
      simp only [pick,aL,aK,aM,aJ,ah,ai] at z9
      subst r
      refine ax.mk (.b2 rr .nil) ?_
      exact ⟨[],P,Q,O.length,s,R,T,U,S.length,t,V,Z,am,l.length,u,ap,rr,z9,ce,ci,cl⟩
     ·
      replace d:=az d ld
      refine aO (congrArg Value.bool (Bool.eq_false_iff.2 ld)) ?_
      refine W.skip ?_
      refine z1 _ _ ?_;clear z1
      refine ad fun _ At=>?_
      refine bd a7 [1,3,5,7,9,11,12] ?_
      have AC:=z3.drew
      refine aD rr rr<|aj rr rr<|bO AC rr rr (.cons 42 rr (.cons 43 rr (.cons 44 rr (.cons 45 rr (.cons 46 rr (.cons 47 rr (.cons 48 rr (.cons 49 rr (.cons 50 rr (.cons 51 rr (.cons 52 rr (.cons 53 rr (.cons 54 rr (.cons 55 rr (.cons 56 rr (.cons 57 rr (.cons 58 rr .nil))))))))))))))))) (by kernel_rfl)<|aa.nilCheck rr rr<|bm eS rr rr<|c3 (j:=0) (o':=0) eQ rr rr rr (by omega) rr ?_
      refine bA (ps:= [p8 16 m7,p8 32 m8,p8 32 m9,p8 32 m',p8 32 ne,p8 32 nl,p8 32 no,p4 n5,p4 n6,p4 d3,p4 n7,p4 n8,p4 ok,p8 32 ol,p8 32 on,p4 op,p8 64 os]) AC rr rr rr (cj.run 1) ⟨fun _ _=>rr,fun _ _=>rr,fun _ _=>rr,fun _ _=>rr,fun _ _=>rr,fun _ _=>rr,fun _ _=>rr,fun _ _=>rr,fun _ _=>rr,fun _ _=>rr,fun _ _=>rr,fun _ _=>rr,fun _ _=>rr,fun _ _=>rr,fun _ _=>rr,fun _ _=>rr,fun _ _=>rr,trivial⟩ (by kernel_rfl) (av.wait rr) fun Iy Do=>?_
      simp only [ao,List.take_succ_cons,List.take_zero,List.drop_succ_cons,List.drop_zero,List.length_cons,List.length_nil,Nat.zero_add,Nat.reduceAdd,List.cons_append,List.nil_append] at Do
      refine aa.fin At ?_;clear At
      refine ad fun _ Eq=>?_
      have EQ:=St.aF (C:= [_,_,_,_,_,_,_,_,_,_,_,_,_,_,_,_,_,_,_,_,_,_,_,_,_,_,_,_,_,_,_,_,_,_,_,_,_,_,_,_,_,_,_,_,_,_,_,_,_,_,_,_,_,_,_,_,_,_,_,_,_,_,_,_]) Do [1,2,3,4,5,6,7,8,9,10,11,12,13,14,15,16,17,18,19,20,21,22,23,24,25,26,27,28,29,30,31,32,33,34,35,36,37,38,39,40,41,42,43,44,45,46,47,48,49,50,51,52,53,54,55,56,57,58,59,60,61,62,63,0] (by decide)
      simp only [pick,aL,aK,aM,aJ,ah,ai] at EQ
      obtain ⟨L,hu⟩:∃X,X= [gO hk K hm] ++L:=⟨_,rfl⟩
      obtain ⟨LP,le⟩:∃X,X= [gO hk K hm] ++LP:=⟨_,rfl⟩
      replace i3:∀r∈LP,r∈L:=by rw [le,hu];exact wQ i3
      have Fd:=St.re (N:= [_,_,_,_,_,_,_,_,_,_,_,_,_,_,_,_,_,_,_,_,_,_,_,_,_,_,_,_,_,_,_,_,_,_,_,_,_,_,_,_,_,_,_,_,_,_,_,_,_,_,_,_,_,_,_,_,_,_,_,_,_,_,_]) hu EQ
      simp only [ah,ai] at Fd
      replace d2:dB _ _ L LP:=d2.step hu le
      obtain ⟨pl,HO⟩:∃i,Bx L i cs f.length c1 f:=⟨_,by rw [hu];exact i6.app _⟩
      have HP:LO (dp.at LP) [] Z am ((l).length) u ap l:=by rw [le];exact LO.grow gG (fun r pm=>List.mem_append_right _ pm) cl
      obtain ⟨Iz,IA⟩:∃i,Bx L i be x.length K x:=⟨_,by rw [hu];exact (z4.bx 0 rfl)⟩
      have HQ:∃i,Bx LP i be x.length K x:=⟨_,by rw [le];exact (z4.bx 0 rfl)⟩
      refine bd a7 [1,3,5,7,9,11,13,15,17,19,21,23,25,27,28,31,32,35,37,38,40,43,45,46] ?_
      have hw:=Fd.drew
      refine aD rr rr<|aD rr rr<|aa.nilCheck rr rr<|aa.fieldAddr 688 hn rr rr<|aX hw 38 rr rr rr (by omega) iR<|aj rr rr<|jx (a:=1) (b:=0) rr rr rr (by omega)<|bO hw rr rr (.cons 58 rr (.cons 59 rr (.cons 60 rr (.cons 61 rr (.cons 62 rr .nil))))) ei ?_
      refine aE rr rr<|aE rr rr ?_
      refine jH hw (HO.app [_,_,_,_,_,_,_,_,_,_,_,_,_,_,_,_,_,_,_,_,_,_,_,_,_,_,_,_,_,_,_,_,_,_,_,_,_,_,_,_,_,_,_,_,_,_,_,_,_,_,_,_,_,_,_,_,_,_,_,_,_,_,_]) cq cw gB rr rr fun IB hH=>?_
      replace hH:=rv [_,_,_,_,_,_,_,_,_,_,_,_,_,_,_,_,_,_,_,_,_,_,_,_,_,_,_,_,_,_,_,_,_,_,_,_,_,_,_,_,_,_,_,_,_,_,_,_,_,_,_,_,_,_,_,_,_,_,_,_,_,_,_] hH
      refine aD rr rr<|aa.nilCheck rr rr<|aa.fieldAddr 688 hn rr rr<|nT<|aX hw 38 rr rr rr (by omega) iR<|aa.nil<|aa.len oe rr rr ?_
      obtain ⟨cc,HR,d⟩:=d
      refine aw qw (qq HR hw) ?_
      rintro _ IC ⟨ID,IE,IF,IG,IH,rfl,pp,Fn⟩
      obtain rfl:=Fn.hl
      refine ⟨_,rr,.inl ⟨ae.keep (by exact (ae.or (pl+64) (kz hH [_,_,_,_,_,_,_,_,_,_,_,_,_,_,_,_,_,_,_,_,_,_,_,_,_,_,_,_,_,_,_,_,_,_,_,_,_,_,_,_,_,_,_,_,_,_,_,_,_,_,_,_,_,_,_,_,_,_,_,_,_,_,_,_]) (ae.parts (.cons 59 rr (.cons 60 rr (.cons 61 rr (.cons 62 rr (.cons 63 rr .nil))))) (ae.cons 39 rr ae.nil)))) pp,?_⟩⟩
      refine jH pp (Fn.bx 0 rr) cq cw gB rr rr fun II Fr=>?_
      refine dt (ps:= [p1 (VN (1 - 0)),p8 16 z,p4 m,p8 32 A,p4 E,p4 g,p1 (.slice be x.length K),p1 (.string (bV f)),p1 (.string (bV cc))]) x2 (by decide) nG rr rr (.one [] [p8 16 (fun _=>0#8),p4 (0#32),p8 32 (fun _=>0#8),p4 (0#32),p4 (0#32),p1 (.slice none 0 0),p1 (.string (bV ([]))),p1 (.string (bV ([])))] (fun _=>VN 0) (by kernel_rfl) rr (.agg [p1 (VN (1 - 0))] [p8 16 (fun _=>0#8),p4 (0#32),p8 32 (fun _=>0#8),p4 (0#32),p4 (0#32)] [p1 (.slice none 0 0),p1 (.string (bV ([]))),p1 (.string (bV ([])))] [p8 16 z,p4 m,p8 32 A,p4 E,p4 g] (by kernel_rfl) (by kernel_rfl) (.one [p1 (VN (1 - 0)),p8 16 z,p4 m,p8 32 A,p4 E,p4 g] [p1 (.string (bV ([]))),p1 (.string (bV ([])))] (fun _=> .slice none 0 0) (by kernel_rfl) rr (.one [p1 (VN (1 - 0)),p8 16 z,p4 m,p8 32 A,p4 E,p4 g,p1 (.slice be x.length K)] [p1 (.string (bV ([])))] (fun _=> .string (bV ([]))) (by kernel_rfl) rr (.one [p1 (VN (1 - 0)),p8 16 z,p4 m,p8 32 A,p4 E,p4 g,p1 (.slice be x.length K),p1 (.string (bV f))] [] (fun _=> .string (bV ([]))) (by kernel_rfl) rr .nil))))) ?_
      refine iB (D:=(dp.at LP)) (sz:=55) pp [((be,K),(((((1 - 0):Nat):Int),z,m,A,E,g,x,f,cc):(Int×K8×U4×K8×U4×U4×(List af)×(List af)×(List af))))] nO (by kernel_rfl) xl (by decide) (by decide) rr rr rr rr (by exact (List.forall_mem_cons.2 ⟨HQ,(fun _ h=>nomatch h)⟩)) (av.keep (ae.or 0 Fr (ae.or (pl+64) (kz hH [_,_,_,_,_,_,_,_,_,_,_,_,_,_,_,_,_,_,_,_,_,_,_,_,_,_,_,_,_,_,_,_,_,_,_,_,_,_,_,_,_,_,_,_,_,_,_,_,_,_,_,_,_,_,_,_,_,_,_,_,_,_,_,_]) (ae.parts (.cons 59 rr (.cons 60 rr (.cons 61 rr (.cons 62 rr (.cons 63 rr .nil))))) (ae.cons 39 rr ae.nil))))) fun FS IJ HS IK pu HT=>?_
      replace pu:LO (dp.at LP) [] (some ⟨FS,0,none⟩) (some FS) ([((((1 - 0):Nat):Int),z,m,A,E,g,x,f,cc)]:cI).length 1 HS ([((((1 - 0):Nat):Int),z,m,A,E,g,x,f,cc)]:cI):=pu.re (fun _ _ h=>h)
      obtain ⟨Go,d⟩:=d
      refine j9 (D:=(dp.at LP)) (X:=l) (Y:=([((((1 - 0):Nat):Int),z,m,A,E,g,x,f,cc)]:cI)) (sz:=55) HT (none,0) bg 41 HP rr vf rr nO rr rr rr rr (cZ kE pu 0 rr) (fun _ _ h=>h) Go.1 Go.2 (fun _=>av.mix _ (aH.keep rr (aH.keep rr (aH.keep rr (aH.drop rr aH.nil)))) (ae.or 1 Fr (ae.or (pl+65) (kz hH [_,_,_,_,_,_,_,_,_,_,_,_,_,_,_,_,_,_,_,_,_,_,_,_,_,_,_,_,_,_,_,_,_,_,_,_,_,_,_,_,_,_,_,_,_,_,_,_,_,_,_,_,_,_,_,_,_,_,_,_,_,_,_,_,_]) (ae.parts (.cons 60 rr (.cons 61 rr (.cons 62 rr (.cons 63 rr (.cons 64 rr .nil))))) ae.nil)))) fun GE GO GP GQ IL qr GR=>?_
      simp only [ah,ai,aq,ar] at GR
      replace qr:LO (dp.at LP) [] GE GO (l ++([((((1 - 0):Nat):Int),z,m,A,E,g,x,f,cc)]:cI)).length GP GQ (l ++([((((1 - 0):Nat):Int),z,m,A,E,g,x,f,cc)]:cI)):=qr.re (fun _ _ h=>h)
      refine aa.nilCheck rr rr<|aa.fieldAddr 688 hn rr rr ?_
      refine hY GR 40 rr rr rr rr rr uH rr fun IM GS=>?_
      simp only [ah,ai,aq,ar] at GS
      refine aa.fin Eq ?_;clear Eq
      refine ad fun _ GT=>ag 1 1 ?_
      refine a8 rr rr<|aa.fin GT ?_;clear GT
      refine W.ret (aB ?_)
      have GU:=St.aF (C:= [_,_,_,_,_,_,_,_,_,_,_,_,_,_,_,_,_,_,_,_,_,_,_,_,_,_,_,_,_,_,_,_,_,_,_,_,_,_,_,_,_,_,_,_,_,_,_,_,_,_,_,_,_,_,_,_,_,_,_,_,_,_,_,_,_]) GS [2,3,4,5,6,7,8,9,10,11,12,13,14,15,16,17,18,19,20,21,22,23,24,25,26,27,28,29,30,31,32,33,34,35,36,37,38,39,40,41,42] (by decide)
      simp only [pick,aL,aK,aM,aJ,ah,ai] at GU
      subst r
      refine ax.mk (.b2 rr .nil) ?_
      obtain ⟨HU,rc,rd⟩:=d2
      subst rc
      subst rd
      exact ⟨_,P,Q,O.length,s,R,T,U,S.length,t,V,GE,GO,(l ++([((((1 - 0):Nat):Int),z,m,A,E,g,x,f,cc)]:cI)).length,GP,GQ,rr,GU,ce,ci,qr⟩
  ·
   replace d:=az d m6
   obtain ⟨HV,d⟩:=d
   subst HV
   refine fy (B:=B) (L:=L) a7 [⟨21,7,35,[p8 16 (fun _=>0#8),p8 32 (fun _=>0#8),p8 32 (fun _=>0#8),p8 32 (fun _=>0#8),p8 32 (fun _=>0#8),p8 32 (fun _=>0#8),p8 32 (fun _=>0#8),p4 (0#32),p4 (0#32),p4 (0#32),p4 (0#32),p4 (0#32),p4 (0#32),p8 32 (fun _=>0#8),p8 32 (fun _=>0#8),p4 (0#32),p8 64 (fun _=>0#8)]⟩,⟨22,8,43,[p8 16 (fun _=>0#8),p4 (0#32),p8 32 (fun _=>0#8),p4 (0#32),p4 (0#32)]⟩] (dg [1,3,5,7,9,11,13,15,17,19,21,23,25,27]) [(dg [28]),(dg [30,33,35,37,39,41])] (dg [46,48,51,53]) (by kernel_rfl) (by kernel_rfl) (.cons eu (.cons ik .nil)) ?_
   have li:=v9.drew
   refine aD rr rr<|aj rr rr<|aa.nilCheck rr rr<|bm eS rr rr<|c3 (j:=1) (o':=343) eQ rr rr rr (by omega) rr<|bO li rr rr (.cons 17 rr (.cons 18 rr (.cons 19 rr (.cons 20 rr (.cons 21 rr (.cons 22 rr (.cons 23 rr (.cons 24 rr (.cons 25 rr (.cons 26 rr (.cons 27 rr (.cons 28 rr (.cons 29 rr (.cons 30 rr (.cons 31 rr (.cons 32 rr (.cons 33 rr .nil))))))))))))))))) (by kernel_rfl)<|aa.fieldAddr 5 jD rr rr<|aX li (iG1005+41) rr rr bv (by omega) bf ?_
   refine aE rr rr<|aD rr rr<|aa.nilCheck rr rr<|aa.fieldAddr 688 hn rr rr<|aX li 38 rr rr rr (by omega) iR<|aa.len oe rr rr ?_
   refine aa.nil ⟨_,[_,_,_,_,_,_,_,_,_,_,_,_,_,_,_,_,_,_,_,_,_,_,_,_,_,_,_,_,_,_,_,_,_,_,_,_,_,_,_,_,_],li,(ae.cons 38 rr (ae.cons (iG1005+41) bv (ae.parts (.cons 17 rr (.cons 18 rr (.cons 19 rr (.cons 20 rr (.cons 21 rr (.cons 22 rr (.cons 23 rr (.cons 24 rr (.cons 25 rr (.cons 26 rr (.cons 27 rr (.cons 28 rr (.cons 29 rr (.cons 30 rr (.cons 31 rr (.cons 32 rr (.cons 33 rr .nil))))))))))))))))) ae.nil))),?_⟩
   refine PX.step fun GV IN IO GW=>?_
   simp only [ah,ai] at GW
   obtain ⟨IP,HW,d⟩:=d
   refine aw qw (qq HW GW) ?_
   rintro _ IQ ⟨IR,IS,IT,IU,IV,rfl,GX,GY⟩
   obtain rfl:=GY.hl
   refine ⟨_,rr,.inl ⟨ae.keep (by exact (ae.cons 39 rr (ae.cons ((iG1005+GV.length)+42) (c_ bv GV) (ae.parts (.cons 18 rr (.cons 19 rr (.cons 20 rr (.cons 21 rr (.cons 22 rr (.cons 23 rr (.cons 24 rr (.cons 25 rr (.cons 26 rr (.cons 27 rr (.cons 28 rr (.cons 29 rr (.cons 30 rr (.cons 31 rr (.cons 32 rr (.cons 33 rr (.cons 34 rr .nil))))))))))))))))) ae.nil)))) GX,?_⟩⟩
   refine aa.nil ⟨_,[_,_,_,_,_,_,_,_,_,_,_,_,_,_,_,_,_,_,_,_,_,_,_,_,_,_,_,_,_,_,_,_,_,_,_,_,_,_,_,_,_,_],GX,(ae.cons 39 rr (ae.cons (iG1005+42) bv (ae.parts (.cons 18 rr (.cons 19 rr (.cons 20 rr (.cons 21 rr (.cons 22 rr (.cons 23 rr (.cons 24 rr (.cons 25 rr (.cons 26 rr (.cons 27 rr (.cons 28 rr (.cons 29 rr (.cons 30 rr (.cons 31 rr (.cons 32 rr (.cons 33 rr (.cons 34 rr .nil))))))))))))))))) ae.nil))),?_⟩
   refine PX.step fun hO IW IX GZ=>?_
   simp only [ah,ai] at GZ
   obtain ⟨rg,ro,rs,rt,rx,sp,st,s1,s2,d5,s3,s4,s5,s6,s7,s8,s9,F,n,G,H,k,a9,ds,HX,d⟩:=d
   refine dm uz (vo (iG1:=(iG1+hO.length)+42) (c_ t2 hO) (iG2:=(iG2+hO.length)+42) (c_ t3 hO) ((i6.app hO).app [_,_,_,_,_,_,_,_,_,_,_,_,_,_,_,_,_,_,_,_,_,_,_,_,_,_,_,_,_,_,_,_,_,_,_,_,_,_,_,_,_,_]) (by exact (GY.bx 0 rr)) HX GZ) ?_
   rintro _ IY ⟨h1,id,IZ,ii,io,rfl,G0,d0⟩
   try dsimp only at d0
   obtain rfl:=d0.hl
   refine ⟨_,rr,_,_,_,_,G0,(by exact (av.mix _ (aH.keep rr (aH.drop rr (aH.drop rr aH.nil))) (ae.cons 40 rr ae.nil))),?_⟩
   refine bK rr rr<|b5 rr rr rr<|b5 rr rr rr<|dh rr rr rr<|b' rr rr rr ?_
   refine aa.nil ⟨_,[_,_,_,_,_,_,_,_,_,_,_,_,_,_,_,_,_,_,_,_,_,_,_,_,_,_,_,_,_,_,_,_,_,_,_,_,_,_,_,_,_,_,_],G0,(ae.cons 40 rr ae.nil),?_⟩
   refine PX.done (KE.step fun q=>(KE.step fun d6=>(KE.fin fun I0 G1=>?_)))
   simp only [ao,Nat.zero_add,Nat.reduceAdd,ah,ai] at G1
   refine bA (ps:= [p8 16 rg,p8 32 ro,p8 32 rs,p8 32 rt,p8 32 rx,p8 32 sp,p8 32 st,p4 s1,p4 s2,p4 d5,p4 s3,p4 s4,p4 s5,p8 32 s6,p8 32 s7,p4 s8,p8 64 s9]) G1 rr rr rr (cj.run 43) ⟨fun _ _=>rr,fun _ _=>rr,fun _ _=>rr,fun _ _=>rr,fun _ _=>rr,fun _ _=>rr,fun _ _=>rr,fun _ _=>rr,fun _ _=>rr,fun _ _=>rr,fun _ _=>rr,fun _ _=>rr,fun _ _=>rr,fun _ _=>rr,fun _ _=>rr,fun _ _=>rr,fun _ _=>rr,trivial⟩ (by kernel_rfl) (av.wait rr) fun I1 G2=>?_
   simp only [ao,List.take_succ_cons,List.take_zero,List.drop_succ_cons,List.drop_zero,List.length_cons,List.length_nil,Nat.zero_add,Nat.reduceAdd,List.cons_append,List.nil_append] at G2
   refine bA (ps:= [p8 16 F,p4 n,p8 32 G,p4 H,p4 k]) G2 rr rr rr (.cons 60 rr (.cons 61 rr (.cons 62 rr (.cons 63 rr (.cons 64 rr .nil))))) ⟨fun _ _=>rr,fun _ _=>rr,fun _ _=>rr,fun _ _=>rr,fun _ _=>rr,trivial⟩ iw (av.keep ae.nil) fun I2 lm=>?_
   simp only [ah,ai,aq,ar] at lm
   refine aV rr rr<|ak rr rr<|aa.fin i7 ?_;clear i7
   refine ad fun _ G3=>ad fun _ G4=>?_
   refine ag 8 255 ?_
   refine aD rr rr<|aj rr rr<|aa.nilCheck rr rr<|bm eS rr rr<|c3 (j:=1) (o':=343) eQ rr rr rr (by omega) rr<|aa.fieldAddr 208 gz rr rr<|aX lm 26 rr rr rr (by omega) bf<|aR (a:=(J.toNat:Int)) (b:=((0#32).toNat:Int)) (p:=J=0#32) rr rr rr rr ih ?_
   refine aa.fin G4 ?_;clear G4
   by_cases ls:J=0#32
   ·
    replace d:=aA d ls
    refine aG (congrArg Value.bool (decide_eq_true ls)) ?_
    refine ad fun _ G5=>ag 3 7 ?_
    refine aj rr rr<|aR (a:=(((ds:Nat):Int):Int)) (b:=(165:Int)) (p:=ds=165) rr rr rr rr fL<|a8 rr rr<|aa.fin G5 ?_;clear G5
    refine W.ret (a' (aB ?_))
    have G6:=St.aF (C:= [_,_,_,_,_,_,_,_,_,_,_,_,_,_,_,_,_,_,_,_,_,_,_,_,_,_,_,_,_,_,_,_,_,_,_,_,_,_,_,_,_,_,_,_,_,_,_,_,_,_,_,_,_,_,_,_,_,_,_,_,_,_,_,_,_]) lm [2,3,4,5,6,7,8,9,10,11,12,13,14,15,16,17,18,19,20,21,22,23,24,25,26,27,28,29,30,31,32,33,34,35,36,37,38,39,40,41,42] (by decide)
    simp only [pick,aL,aK,aM,aJ,ah,ai] at G6
    subst r
    refine ax.mk (.b2 rr .nil) ?_
    exact ⟨[],P,Q,O.length,s,R,T,U,S.length,t,V,Z,am,l.length,u,ap,rr,G6,ce,ci,cl⟩
   ·
    replace d:=az d ls
    refine aO (congrArg Value.bool (decide_eq_false ls)) ?_
    refine W.skip ?_
    refine G3 _ _ ?_;clear G3
    refine ad fun _ G7=>ad fun _ G8=>?_
    obtain ⟨y,t268,HY,HZ⟩:=d
    refine bq (fun e w=>∃ip:List af,∃s':Bool,(y=ip∧t268=s')∧∃bi:Option Addr,∃is:Option Nat,∃M:Nat,∃it:Nat→af,aU e [(0,pt c 0),(1,VN 1),(2,.slice cs f.length c1),(7,pt q 0),(8,pt d6 0),(9,.slice bi ip.length M),(89,.bool s')]∧St B w0 (gO is M it::g8 c 0 16 d7::g8 c 16 32 d8::g8 c 48 32 d9::g8 c 80 32 el::g8 c 112 32 em::g8 c 144 32 eq::g8 c 176 32 es::g4 c 208 I::g4 c 209 ex::g4 c 210 a3::g4 c 211 fd::g4 c 212 fn::g4 c 213 f0::g8 c 214 32 f1::g8 c 246 32 f2::g4 c 278 f3::g8 c 279 64 f4::g8 c 343 16 f5::g8 c 359 32 f6::g8 c 391 32 f7::g8 c 423 32 f8::g8 c 455 32 f9::g8 c 487 32 f'::g8 c 519 32 dS::g4 c 551 J::g4 c 552 dY::g4 c 553 a4::g4 c 554 gc::g4 c 555 gd::g4 c 556 ge::g8 c 557 32 go::g8 c 589 32 gs::g4 c 621 gt::g8 c 622 64 g0::g1 c 686 (.slice P O.length s)::gL Q (s*34) R::g1 c 687 (.slice T S.length t)::gL U (t*34) V::g1 c 688 (.slice Z l.length u)::gL am (u*55) ap::g1 c 689 (.int .i64 d1)::g8 q 0 16 rg::g8 q 16 32 ro::g8 q 48 32 rs::g8 q 80 32 rt::g8 q 112 32 rx::g8 q 144 32 sp::g8 q 176 32 st::g4 q 208 s1::g4 q 209 s2::g4 q 210 d5::g4 q 211 s3::g4 q 212 s4::g4 q 213 s5::g8 q 214 32 s6::g8 q 246 32 s7::g4 q 278 s8::g8 q 279 64 s9::g8 d6 0 16 F::g4 d6 16 n::g8 d6 17 32 G::g4 d6 49 H::g4 d6 50 k::L) w∧Ow bi is ip.length M it ip) ?_ ?_
    ·
     replace d:=HY
     refine bd a7 [1,3,5,7,9,11,13,15,17,19,21,23,25,27,29,31,33,35,37,39,41,43,45,47,49,51,53,55,57,59,61,63,65,67,69,71,73,75,77,79,81,83,85] ?_
     have a2:=lm.drew
     refine aj rr rr ?_
     by_cases lt:ds≠0
     ·
      replace d:=aA d lt
      refine bI (a:=(((ds:Nat):Int):Int)) (b:=(0:Int)) (p:=ds≠0) (v:=true) rr rr rr rr cm (decide_eq_true lt)<|a_ rr rr<|al rr<|al rr<|al rr<|al rr<|al rr<|al rr ?_
      refine b0 rr rr rr<|a_ rr rr<|al rr<|al rr<|al rr<|al rr<|al rr<|al rr ?_
      refine al rr<|al rr<|al rr<|al rr<|b0 rr rr rr<|a_ rr rr<|al rr<|al rr ?_
      refine al rr<|al rr<|al rr<|al rr<|al rr<|al rr<|al rr<|al rr ?_
      refine al rr<|b0 rr rr rr<|a_ rr rr<|al rr<|al rr<|al rr<|al rr<|al rr ?_
      refine al rr<|b0 rr rr rr<|aa.nil ?_
      exact ⟨a9,true,d,h1,id,ii,io,(ab (ab (ab (ab (ab (ab (ab au))))))),bt 65 [0,2,3,4,5,6,7,8,9,10,11,12,13,14,15,16,17,18,19,20,21,22,23,24,25,26,27,28,29,30,31,32,33,34,35,36,37,38,39,40,41,42,43,44,45,46,47,48,49,50,51,52,53,54,55,56,57,58,59,60,61,62,63,64] a2,d0⟩
     ·
      replace d:=az d lt
      refine bI (a:=(((ds:Nat):Int):Int)) (b:=(0:Int)) (p:=ds≠0) (v:=false) rr rr rr rr cm (decide_eq_false lt)<|a_ rr rr<|aE rr rr<|aa.len cB rr rr<|aE rr rr<|aa.len cB rr rr ?_
      obtain ⟨I3,d⟩:=d
      refine bu (a:=f.length) (b:=32) rr rr rr (by omega) ?_
      by_cases lw:a9.length≠(f.length+32)
      ·
       replace d:=aA d lw
       refine bI (a:=(((a9.length:Nat):Int):Int)) (b:=((((f.length+32):Nat):Int):Int)) (p:=a9.length≠(f.length+32)) (v:=true) rr rr rr rr cm (decide_eq_true lw)<|ca rr rr rr<|a_ rr rr<|al rr<|al rr<|al rr<|al rr<|al rr ?_
       refine al rr<|al rr<|al rr<|al rr<|al rr<|b0 rr rr rr<|a_ rr rr<|al rr ?_
       refine al rr<|al rr<|al rr<|al rr<|al rr<|al rr<|al rr<|al rr ?_
       refine al rr<|al rr<|b0 rr rr rr<|a_ rr rr<|al rr<|al rr<|al rr<|al rr ?_
       refine al rr<|al rr<|b0 rr rr rr<|aa.nil ?_
       exact ⟨a9,true,d,h1,id,ii,io,(ab (ab (ab (ab (ab (ab (ab au))))))),bt 65 [0,2,3,4,5,6,7,8,9,10,11,12,13,14,15,16,17,18,19,20,21,22,23,24,25,26,27,28,29,30,31,32,33,34,35,36,37,38,39,40,41,42,43,44,45,46,47,48,49,50,51,52,53,54,55,56,57,58,59,60,61,62,63,64] a2,d0⟩
      ·
       replace d:=az d lw
       refine bI (a:=(((a9.length:Nat):Int):Int)) (b:=((((f.length+32):Nat):Int):Int)) (p:=a9.length≠(f.length+32)) (v:=false) rr rr rr rr cm (decide_eq_false lw)<|ca rr rr rr<|a_ rr rr<|aa.fieldAddr 50 gl rr rr<|aX a2 64 rr rr rr (by omega) bf<|aD rr rr<|aj rr rr<|aa.nilCheck rr rr ?_
       refine bm eS rr rr<|c3 (j:=1) (o':=343) eQ rr rr rr (by omega) rr<|aa.fieldAddr 210 gR rr rr<|aX a2 28 rr rr rr (by omega) bf ?_
       by_cases md:k≠a4
       ·
        replace d:=aA d md
        refine bI (a:=(k.toNat:Int)) (b:=(a4.toNat:Int)) (p:=k≠a4) (v:=true) rr rr rr rr eV (decide_eq_true md)<|ca rr rr rr<|a_ rr rr<|al rr<|al rr<|al rr<|al rr<|al rr ?_
        refine al rr<|al rr<|al rr<|al rr<|al rr<|al rr<|b0 rr rr rr<|a_ rr rr ?_
        refine al rr<|al rr<|al rr<|al rr<|al rr<|al rr<|b0 rr rr rr<|aa.nil ?_
        exact ⟨a9,true,d,h1,id,ii,io,(ab (ab (ab (ab (ab (ab (ab au))))))),bt 65 [0,2,3,4,5,6,7,8,9,10,11,12,13,14,15,16,17,18,19,20,21,22,23,24,25,26,27,28,29,30,31,32,33,34,35,36,37,38,39,40,41,42,43,44,45,46,47,48,49,50,51,52,53,54,55,56,57,58,59,60,61,62,63,64] a2,d0⟩
       ·
        replace d:=az d md
        refine bI (a:=(k.toNat:Int)) (b:=(a4.toNat:Int)) (p:=k≠a4) (v:=false) rr rr rr rr eV (decide_eq_false md)<|ca rr rr rr<|a_ rr rr<|aa.fieldAddr 16 gi rr rr<|aX a2 61 rr rr rr (by omega) bf<|cD .u32 (X:=n) (Y:=1#32) rr rr rr<|aD rr rr<|aj rr rr ?_
        refine aa.nilCheck rr rr<|bm eS rr rr<|c3 (j:=1) (o':=343) eQ rr rr rr (by omega) rr<|aa.fieldAddr 208 gz rr rr<|aX a2 26 rr rr rr (by omega) bf ?_
        by_cases mp:(n+(1#32))≠J
        ·
         replace d:=aA d mp
         refine bI (a:=((n+(1#32)).toNat:Int)) (b:=(J.toNat:Int)) (p:=(n+(1#32))≠J) (v:=true) rr rr rr rr eV (decide_eq_true mp)<|ca rr rr rr<|a_ rr rr<|al rr<|al rr<|al rr<|al rr<|al rr ?_
         refine al rr<|b0 rr rr rr<|aa.nil ?_
         exact ⟨a9,true,d,h1,id,ii,io,(ab (ab (ab (ab (ab (ab (ab au))))))),bt 65 [0,2,3,4,5,6,7,8,9,10,11,12,13,14,15,16,17,18,19,20,21,22,23,24,25,26,27,28,29,30,31,32,33,34,35,36,37,38,39,40,41,42,43,44,45,46,47,48,49,50,51,52,53,54,55,56,57,58,59,60,61,62,63,64] a2,d0⟩
        ·
         replace d:=az d mp
         refine bI (a:=((n+(1#32)).toNat:Int)) (b:=(J.toNat:Int)) (p:=(n+(1#32))≠J) (v:=false) rr rr rr rr eV (decide_eq_false mp)<|ca rr rr rr<|a_ rr rr<|aa.fieldAddr 210 gR rr rr<|aX a2 52 rr rr rr (by omega) bf<|aa.fieldAddr 50 gl rr rr<|aX a2 64 rr rr rr (by omega) bf<|cD .u32 (X:=k) (Y:=1#32) rr rr rr ?_
         refine aR (a:=(d5.toNat:Int)) (b:=((k+(1#32)).toNat:Int)) (p:=d5≠(k+(1#32))) rr rr rr rr eV<|ca rr rr rr<|aa.nil ?_
         exact ⟨a9,(decide (d5≠(k+(1#32)))),d,h1,id,ii,io,(ab (ab (ab (ab (ab (ab (ab au))))))),bt 65 [0,2,3,4,5,6,7,8,9,10,11,12,13,14,15,16,17,18,19,20,21,22,23,24,25,26,27,28,29,30,31,32,33,34,35,36,37,38,39,40,41,42,43,44,45,46,47,48,49,50,51,52,53,54,55,56,57,58,59,60,61,62,63,64] a2,d0⟩
    ·
     rintro H1 I4 ⟨ip,s',⟨H2,H3⟩,bi,is,M,it,H4,G9,G_⟩
     subst H2
     subst H3
     obtain ⟨H1,rfl⟩:=H4.open
     replace d:=HZ
     refine G8 _ _ ?_;clear G8
     by_cases ms:t268=true
     ·
      replace d:=aA d ms
      refine aG (congrArg Value.bool ms) ?_
      refine ad fun _ G'=>ag 1 1 ?_
      refine a8 rr rr<|aa.fin G' ?_;clear G'
      refine W.ret (a' (aB ?_))
      have Ha:=St.aF (C:= [_,_,_,_,_,_,_,_,_,_,_,_,_,_,_,_,_,_,_,_,_,_,_,_,_,_,_,_,_,_,_,_,_,_,_,_,_,_,_,_,_,_,_,_,_,_,_,_,_,_,_,_,_,_,_,_,_,_,_,_,_,_,_,_]) G9 [1,2,3,4,5,6,7,8,9,10,11,12,13,14,15,16,17,18,19,20,21,22,23,24,25,26,27,28,29,30,31,32,33,34,35,36,37,38,39,40,41] (by decide)
      simp only [pick,aL,aK,aM,aJ,ah,ai] at Ha
      subst r
      refine ax.mk (.b2 rr .nil) ?_
      exact ⟨[],P,Q,O.length,s,R,T,U,S.length,t,V,Z,am,l.length,u,ap,rr,Ha,ce,ci,cl⟩
     ·
      replace d:=az d ms
      refine aO (congrArg Value.bool (Bool.eq_false_iff.2 ms)) ?_
      refine W.skip ?_
      refine G7 _ _ ?_;clear G7
      refine ad fun _ Hb=>?_
      refine bd a7 [1,3,5,7,9,11,12] ?_
      have Hc:=G9.drew
      refine aD rr rr<|aj rr rr<|bO Hc rr rr (.cons 42 rr (.cons 43 rr (.cons 44 rr (.cons 45 rr (.cons 46 rr (.cons 47 rr (.cons 48 rr (.cons 49 rr (.cons 50 rr (.cons 51 rr (.cons 52 rr (.cons 53 rr (.cons 54 rr (.cons 55 rr (.cons 56 rr (.cons 57 rr (.cons 58 rr .nil))))))))))))))))) (by kernel_rfl)<|aa.nilCheck rr rr<|bm eS rr rr<|c3 (j:=1) (o':=343) eQ rr rr rr (by omega) rr ?_
      refine bA (ps:= [p8 16 rg,p8 32 ro,p8 32 rs,p8 32 rt,p8 32 rx,p8 32 sp,p8 32 st,p4 s1,p4 s2,p4 d5,p4 s3,p4 s4,p4 s5,p8 32 s6,p8 32 s7,p4 s8,p8 64 s9]) Hc rr rr rr (cj.run 18) ⟨fun _ _=>rr,fun _ _=>rr,fun _ _=>rr,fun _ _=>rr,fun _ _=>rr,fun _ _=>rr,fun _ _=>rr,fun _ _=>rr,fun _ _=>rr,fun _ _=>rr,fun _ _=>rr,fun _ _=>rr,fun _ _=>rr,fun _ _=>rr,fun _ _=>rr,fun _ _=>rr,fun _ _=>rr,trivial⟩ (by kernel_rfl) (av.wait rr) fun I5 He=>?_
      simp only [ao,List.take_succ_cons,List.take_zero,List.drop_succ_cons,List.drop_zero,List.length_cons,List.length_nil,Nat.zero_add,Nat.reduceAdd,List.cons_append,List.nil_append] at He
      refine aa.fin Hb ?_;clear Hb
      refine ad fun _ Hf=>?_
      have Hg:=St.aF (C:= [_,_,_,_,_,_,_,_,_,_,_,_,_,_,_,_,_,_,_,_,_,_,_,_,_,_,_,_,_,_,_,_,_,_,_,_,_,_,_,_,_,_,_,_,_,_,_,_,_,_,_,_,_,_,_,_,_,_,_,_,_,_,_,_]) He [1,2,3,4,5,6,7,8,9,10,11,12,13,14,15,16,17,18,19,20,21,22,23,24,25,26,27,28,29,30,31,32,33,34,35,36,37,38,39,40,41,42,43,44,45,46,47,48,49,50,51,52,53,54,55,56,57,58,59,60,61,62,63,0] (by decide)
      simp only [pick,aL,aK,aM,aJ,ah,ai] at Hg
      obtain ⟨L,i0⟩:∃X,X= [gO is M it] ++L:=⟨_,rfl⟩
      obtain ⟨LP,mt⟩:∃X,X= [gO is M it] ++LP:=⟨_,rfl⟩
      replace i3:∀r∈LP,r∈L:=by rw [mt,i0];exact wQ i3
      have Hh:=St.re (N:= [_,_,_,_,_,_,_,_,_,_,_,_,_,_,_,_,_,_,_,_,_,_,_,_,_,_,_,_,_,_,_,_,_,_,_,_,_,_,_,_,_,_,_,_,_,_,_,_,_,_,_,_,_,_,_,_,_,_,_,_,_,_,_]) i0 Hg
      simp only [ah,ai] at Hh
      replace d2:dB _ _ L LP:=d2.step i0 mt
      obtain ⟨to,H5⟩:∃i,Bx L i cs f.length c1 f:=⟨_,by rw [i0];exact i6.app _⟩
      have H6:LO (dp.at LP) [] Z am ((l).length) u ap l:=by rw [mt];exact LO.grow gG (fun r pm=>List.mem_append_right _ pm) cl
      obtain ⟨I6,I7⟩:∃i,Bx L i bi y.length M y:=⟨_,by rw [i0];exact (G_.bx 0 rfl)⟩
      have H7:∃i,Bx LP i bi y.length M y:=⟨_,by rw [mt];exact (G_.bx 0 rfl)⟩
      refine bd a7 [1,3,5,7,9,11,13,15,17,19,21,23,25,27,28,31,32,35,37,38,40,43,45,46] ?_
      have i1:=Hh.drew
      refine aD rr rr<|aD rr rr<|aa.nilCheck rr rr<|aa.fieldAddr 688 hn rr rr<|aX i1 38 rr rr rr (by omega) iR<|aj rr rr<|jx (a:=1) (b:=1) rr rr rr (by omega)<|bO i1 rr rr (.cons 58 rr (.cons 59 rr (.cons 60 rr (.cons 61 rr (.cons 62 rr .nil))))) ei ?_
      refine aE rr rr<|aE rr rr ?_
      refine jH i1 (H5.app [_,_,_,_,_,_,_,_,_,_,_,_,_,_,_,_,_,_,_,_,_,_,_,_,_,_,_,_,_,_,_,_,_,_,_,_,_,_,_,_,_,_,_,_,_,_,_,_,_,_,_,_,_,_,_,_,_,_,_,_,_,_,_]) cq cw gB rr rr fun I8 i2=>?_
      replace i2:=rv [_,_,_,_,_,_,_,_,_,_,_,_,_,_,_,_,_,_,_,_,_,_,_,_,_,_,_,_,_,_,_,_,_,_,_,_,_,_,_,_,_,_,_,_,_,_,_,_,_,_,_,_,_,_,_,_,_,_,_,_,_,_,_] i2
      refine aD rr rr<|aa.nilCheck rr rr<|aa.fieldAddr 688 hn rr rr<|nT<|aX i1 38 rr rr rr (by omega) iR<|aa.nil<|aa.len oe rr rr ?_
      obtain ⟨cd,H9,d⟩:=d
      refine aw qw (qq H9 i1) ?_
      rintro _ I9 ⟨I_,I',Ja,Jb,Jc,rfl,ty,Hi⟩
      obtain rfl:=Hi.hl
      refine ⟨_,rr,.inl ⟨ae.keep (by exact (ae.or (to+64) (kz i2 [_,_,_,_,_,_,_,_,_,_,_,_,_,_,_,_,_,_,_,_,_,_,_,_,_,_,_,_,_,_,_,_,_,_,_,_,_,_,_,_,_,_,_,_,_,_,_,_,_,_,_,_,_,_,_,_,_,_,_,_,_,_,_,_]) (ae.parts (.cons 59 rr (.cons 60 rr (.cons 61 rr (.cons 62 rr (.cons 63 rr .nil))))) (ae.cons 39 rr ae.nil)))) ty,?_⟩⟩
      refine jH ty (Hi.bx 0 rr) cq cw gB rr rr fun Jd Hj=>?_
      refine dt (ps:= [p1 (VN (1 - 1)),p8 16 F,p4 n,p8 32 G,p4 H,p4 k,p1 (.slice bi y.length M),p1 (.string (bV f)),p1 (.string (bV cd))]) x2 (by decide) nG rr rr (.one [] [p8 16 (fun _=>0#8),p4 (0#32),p8 32 (fun _=>0#8),p4 (0#32),p4 (0#32),p1 (.slice none 0 0),p1 (.string (bV ([]))),p1 (.string (bV ([])))] (fun _=>VN 0) (by kernel_rfl) rr (.agg [p1 (VN (1 - 1))] [p8 16 (fun _=>0#8),p4 (0#32),p8 32 (fun _=>0#8),p4 (0#32),p4 (0#32)] [p1 (.slice none 0 0),p1 (.string (bV ([]))),p1 (.string (bV ([])))] [p8 16 F,p4 n,p8 32 G,p4 H,p4 k] (by kernel_rfl) (by kernel_rfl) (.one [p1 (VN (1 - 1)),p8 16 F,p4 n,p8 32 G,p4 H,p4 k] [p1 (.string (bV ([]))),p1 (.string (bV ([])))] (fun _=> .slice none 0 0) (by kernel_rfl) rr (.one [p1 (VN (1 - 1)),p8 16 F,p4 n,p8 32 G,p4 H,p4 k,p1 (.slice bi y.length M)] [p1 (.string (bV ([])))] (fun _=> .string (bV ([]))) (by kernel_rfl) rr (.one [p1 (VN (1 - 1)),p8 16 F,p4 n,p8 32 G,p4 H,p4 k,p1 (.slice bi y.length M),p1 (.string (bV f))] [] (fun _=> .string (bV ([]))) (by kernel_rfl) rr .nil))))) ?_
      refine iB (D:=(dp.at LP)) (sz:=55) ty [((bi,M),(((((1 - 1):Nat):Int),F,n,G,H,k,y,f,cd):(Int×K8×U4×K8×U4×U4×(List af)×(List af)×(List af))))] nO (by kernel_rfl) xl (by decide) (by decide) rr rr rr rr (by exact (List.forall_mem_cons.2 ⟨H7,(fun _ h=>nomatch h)⟩)) (av.keep (ae.or 0 Hj (ae.or (to+64) (kz i2 [_,_,_,_,_,_,_,_,_,_,_,_,_,_,_,_,_,_,_,_,_,_,_,_,_,_,_,_,_,_,_,_,_,_,_,_,_,_,_,_,_,_,_,_,_,_,_,_,_,_,_,_,_,_,_,_,_,_,_,_,_,_,_,_]) (ae.parts (.cons 59 rr (.cons 60 rr (.cons 61 rr (.cons 62 rr (.cons 63 rr .nil))))) (ae.cons 39 rr ae.nil))))) fun Hk Je H_ Jf t0 H'=>?_
      replace t0:LO (dp.at LP) [] (some ⟨Hk,0,none⟩) (some Hk) ([((((1 - 1):Nat):Int),F,n,G,H,k,y,f,cd)]:cI).length 1 H_ ([((((1 - 1):Nat):Int),F,n,G,H,k,y,f,cd)]:cI):=t0.re (fun _ _ h=>h)
      obtain ⟨Hl,d⟩:=d
      refine j9 (D:=(dp.at LP)) (X:=l) (Y:=([((((1 - 1):Nat):Int),F,n,G,H,k,y,f,cd)]:cI)) (sz:=55) H' (none,0) bg 41 H6 rr vf rr nO rr rr rr rr (cZ kE t0 0 rr) (fun _ _ h=>h) Hl.1 Hl.2 (fun _=>av.mix _ (aH.keep rr (aH.keep rr (aH.keep rr (aH.drop rr aH.nil)))) (ae.or 1 Hj (ae.or (to+65) (kz i2 [_,_,_,_,_,_,_,_,_,_,_,_,_,_,_,_,_,_,_,_,_,_,_,_,_,_,_,_,_,_,_,_,_,_,_,_,_,_,_,_,_,_,_,_,_,_,_,_,_,_,_,_,_,_,_,_,_,_,_,_,_,_,_,_,_]) (ae.parts (.cons 60 rr (.cons 61 rr (.cons 62 rr (.cons 63 rr (.cons 64 rr .nil))))) ae.nil)))) fun Hm Hn Ho Hp Jg t1 Hq=>?_
      simp only [ah,ai,aq,ar] at Hq
      replace t1:LO (dp.at LP) [] Hm Hn (l ++([((((1 - 1):Nat):Int),F,n,G,H,k,y,f,cd)]:cI)).length Ho Hp (l ++([((((1 - 1):Nat):Int),F,n,G,H,k,y,f,cd)]:cI)):=t1.re (fun _ _ h=>h)
      refine aa.nilCheck rr rr<|aa.fieldAddr 688 hn rr rr ?_
      refine hY Hq 40 rr rr rr rr rr uH rr fun Jh Hr=>?_
      simp only [ah,ai,aq,ar] at Hr
      refine aa.fin Hf ?_;clear Hf
      refine ad fun _ Hs=>ag 1 1 ?_
      refine a8 rr rr<|aa.fin Hs ?_;clear Hs
      refine W.ret (aB ?_)
      have Ht:=St.aF (C:= [_,_,_,_,_,_,_,_,_,_,_,_,_,_,_,_,_,_,_,_,_,_,_,_,_,_,_,_,_,_,_,_,_,_,_,_,_,_,_,_,_,_,_,_,_,_,_,_,_,_,_,_,_,_,_,_,_,_,_,_,_,_,_,_,_]) Hr [2,3,4,5,6,7,8,9,10,11,12,13,14,15,16,17,18,19,20,21,22,23,24,25,26,27,28,29,30,31,32,33,34,35,36,37,38,39,40,41,42] (by decide)
      simp only [pick,aL,aK,aM,aJ,ah,ai] at Ht
      subst r
      refine ax.mk (.b2 rr .nil) ?_
      obtain ⟨HU,rc,rd⟩:=d2
      subst rc
      subst rd
      exact ⟨_,P,Q,O.length,s,R,T,U,S.length,t,V,Hm,Hn,(l ++([((((1 - 1):Nat):Int),F,n,G,H,k,y,f,cd)]:cI)).length,Ho,Hp,rr,Ht,ce,ci,t1⟩
set_option maxRecDepth 8000 in
set_option maxHeartbeats 16000000 in
theorem wV {B:Nat} {w0:aC} {w:World} {L:List Rg} {iG1:Nat} (lc:gT L iG1 1 8 .u32 cH) {iG2:Nat} (ld:gT L iG2 2 64 .u32 bE) {iG3:Nat} (le:gT L iG3 3 5 .u64 dn) {iG1000:Nat} (x:gV L iG1000 0 0 (VN 0)) {iG1001:Nat} (y:gV L iG1001 0 1 (VN 0)) {iG1002:Nat} (z:gV L iG1002 0 2 (VN 64)) {iG1003:Nat} (A:gV L iG1003 0 3 (VN 256)) {iG1004:Nat} (E:gV L iG1004 0 4 (VN 0)) {iG1005:Nat} (F:gV L iG1005 0 5 (VU .u32 1000#32)) {LP:List Rg} (li:∀r∈LP,r∈L) {c:Nat} {S T U V Y Z am:K8} {ap a0 a2 a3 a4 a5:U4} {a9 be:K8} {bi:U4} {bv c1 c2 dl ds d0 d1 dS:K8} {d2 dY d3 d4 d5 d6:U4} {d7 d8:K8} {d9:U4} {el:K8} {G:aZ} {H:Option Addr} {I:Option Nat} {em m:Nat} {J:Nat→Value} (cc:LO bB [] H I em m J G) {eq:aZ} {es:Option Addr} {ex:Option Nat} {fd cd:Nat} {fn:Nat→Value} (f0:LO bB [] es ex fd cd fn eq) {d:cI} {K:Option Addr} {M:Option Nat} {f1 n:Nat} {N:Nat→Value} (o:LO (dp.at LP) [] K M f1 n N d) {ce f:Int} {f2:K8} {r:(Bool×K8×K8×K8×K8×K8×K8×K8×U4×U4×U4×U4×U4×U4×K8×K8×U4×K8×(aZ)×(aZ)×(cI))} (h:mL S T U V Y Z am ap a0 a2 a3 a4 a5 a9 be bi bv c1 c2 dl ds d0 d1 dS d2 dY d3 d4 d5 d6 d7 d8 d9 el G eq d ce f f2 r) (lm:St B w0 (g8 c 0 16 S::g8 c 16 32 T::g8 c 48 32 U::g8 c 80 32 V::g8 c 112 32 Y::g8 c 144 32 Z::g8 c 176 32 am::g4 c 208 ap::g4 c 209 a0::g4 c 210 a2::g4 c 211 a3::g4 c 212 a4::g4 c 213 a5::g8 c 214 32 a9::g8 c 246 32 be::g4 c 278 bi::g8 c 279 64 bv::g8 c 343 16 c1::g8 c 359 32 c2::g8 c 391 32 dl::g8 c 423 32 ds::g8 c 455 32 d0::g8 c 487 32 d1::g8 c 519 32 dS::g4 c 551 d2::g4 c 552 dY::g4 c 553 d3::g4 c 554 d4::g4 c 555 d5::g4 c 556 d6::g8 c 557 32 d7::g8 c 589 32 d8::g4 c 621 d9::g8 c 622 64 el::g1 c 686 (.slice H em m)::gL I (m*34) J::g1 c 687 (.slice es fd cd)::gL ex (cd*34) fn::g1 c 688 (.slice K f1 n)::gL M (n*55) N::g1 c 689 (.int .i64 ce)::L) w):
  Calls Tryz.prog 16 #[pt c 0,.int .i64 f,AG [p8 32 f2]] w fun e w'=>∃C:List Rg,∃f3:Option Addr,∃f4:Option Nat,∃f5 ci:Nat,∃f6:Nat→Value,∃f7:Option Addr,∃f8:Option Nat,∃f9 cl:Nat,∃f':Nat→Value,∃gc:Option Addr,∃gd:Option Nat,∃ge co:Nat,∃go:Nat→Value,e= .returned (.bool r.1)∧St B w0 (g8 c 0 16 S::g8 c 16 32 T::g8 c 48 32 U::g8 c 80 32 V::g8 c 112 32 Y::g8 c 144 32 Z::g8 c 176 32 am::g4 c 208 ap::g4 c 209 a0::g4 c 210 a2::g4 c 211 a3::g4 c 212 a4::g4 c 213 a5::g8 c 214 32 a9::g8 c 246 32 be::g4 c 278 bi::g8 c 279 64 bv::g8 c 343 16 r.2.1::g8 c 359 32 r.2.2.1::g8 c 391 32 r.2.2.2.1::g8 c 423 32 r.2.2.2.2.1::g8 c 455 32 r.2.2.2.2.2.1::g8 c 487 32 r.2.2.2.2.2.2.1::g8 c 519 32 r.2.2.2.2.2.2.2.1::g4 c 551 r.2.2.2.2.2.2.2.2.1::g4 c 552 r.2.2.2.2.2.2.2.2.2.1::g4 c 553 r.2.2.2.2.2.2.2.2.2.2.1::g4 c 554 r.2.2.2.2.2.2.2.2.2.2.2.1::g4 c 555 r.2.2.2.2.2.2.2.2.2.2.2.2.1::g4 c 556 r.2.2.2.2.2.2.2.2.2.2.2.2.2.1::g8 c 557 32 r.2.2.2.2.2.2.2.2.2.2.2.2.2.2.1::g8 c 589 32 r.2.2.2.2.2.2.2.2.2.2.2.2.2.2.2.1::g4 c 621 r.2.2.2.2.2.2.2.2.2.2.2.2.2.2.2.2.1::g8 c 622 64 r.2.2.2.2.2.2.2.2.2.2.2.2.2.2.2.2.2.1::g1 c 686 (.slice f3 f5 ci)::gL f4 (ci*34) f6::g1 c 687 (.slice f7 f9 cl)::gL f8 (cl*34) f'::g1 c 688 (.slice gc ge co)::gL gd (co*55) go::g1 c 689 (.int .i64 ce)::(C ++L)) w'∧LO bB [] f3 f4 f5 ci f6 r.2.2.2.2.2.2.2.2.2.2.2.2.2.2.2.2.2.2.1∧LO bB [] f7 f8 f9 cl f' r.2.2.2.2.2.2.2.2.2.2.2.2.2.2.2.2.2.2.2.1∧LO (dp.at (C ++LP)) [] gc gd ge co go r.2.2.2.2.2.2.2.2.2.2.2.2.2.2.2.2.2.2.2.2:=by
 refine W.enter 63 Tryz.func16 rr rr rr ?_
 unfold mL at h
 have m3:dB L LP L LP:=dB.refl _ _
 have lo:=cc.hl;subst lo
 have ls:=f0.hl;subst ls
 have lt:=o.hl;subst lt
 refine ad fun _ gs=>ag 2 2 ?_
 refine bp lm rr rr ae.nil fun m4 m5 m6 q=>?_
 simp only [ao,Nat.zero_add,Nat.reduceAdd,ah,ai] at q
 refine a8 rr rr<|aa.fin gs ?_;clear gs
 refine ad fun _ gt=>ag 9 127 ?_
 refine aD rr rr<|aa.nilCheck rr rr<|aa.fieldAddr 688 hn rr rr<|aX q 39 rr rr rr (by omega) iR<|aj rr rr ?_
 obtain ⟨s,h⟩:=h
 refine f_ (D:=(dp.at LP)) (j:=f.toNat) q (cZ kE o 40 rr) w_ rr rr (congrArg (Value.int .i64) (Int.toNat_of_nonneg s.1).symm) (toNat_lt s.1 s.2) ?_
 refine ht (D:=(dp.at LP)) (X:=d) (j:=f.toNat) (sz:=55) q bg (cZ kE o 40 rr) rr rr (toNat_lt s.1 s.2) rr (by kernel_rfl) fun g0 m7 lw md=>?_
 obtain ⟨mp,O⟩:=lw
 have m8:∃i,Bx LP i _ _ _ _:=⟨_,O⟩
 obtain ⟨mp,O⟩:=Bx.lift O li
 refine aa.alloc q rr nG (ae.cons 40 md (ae.cons 39 rr ae.nil)) fun m9 m' ne g2=>?_
 simp only [ao,Nat.zero_add,Nat.reduceAdd,ah,ai] at g2
 refine bA (ps:= [p1 (.int .i64 ((d.getD f.toNat bg).1)),p8 16 ((d.getD f.toNat bg).2.1),p4 ((d.getD f.toNat bg).2.2.1),p8 32 ((d.getD f.toNat bg).2.2.2.1),p4 ((d.getD f.toNat bg).2.2.2.2.1),p4 ((d.getD f.toNat bg).2.2.2.2.2.1),p1 (.slice ((g0).1) (((d.getD f.toNat bg).2.2.2.2.2.2.1).length) ((g0).2)),p1 (.string (bV ((d.getD f.toNat bg).2.2.2.2.2.2.2.1))),p1 (.string (bV ((d.getD f.toNat bg).2.2.2.2.2.2.2.2)))]) g2 rr rr rr (cj.run 0) ⟨fun _ _=>rr,fun _ _=>rr,fun _ _=>rr,fun _ _=>rr,fun _ _=>rr,fun _ _=>rr,fun _ _=>rr,fun _ _=>rr,fun _ _=>rr,trivial⟩ (by kernel_rfl) (av.wait rr) fun nl g3=>?_
 simp only [ao,List.take_succ_cons,List.take_zero,List.drop_succ_cons,List.drop_zero,List.length_cons,List.length_nil,Nat.zero_add,Nat.reduceAdd,List.cons_append,List.nil_append] at g3
 refine aa.fin gt ?_;clear gt
 refine ad fun _ g5=>?_
 refine fy (B:=B) (L:=L) a7 [⟨25,8,35,[p8 16 (fun _=>0#8),p8 32 (fun _=>0#8),p8 32 (fun _=>0#8),p8 32 (fun _=>0#8),p8 32 (fun _=>0#8),p8 32 (fun _=>0#8),p8 32 (fun _=>0#8),p4 (0#32),p4 (0#32),p4 (0#32),p4 (0#32),p4 (0#32),p4 (0#32),p8 32 (fun _=>0#8),p8 32 (fun _=>0#8),p4 (0#32),p8 64 (fun _=>0#8)]⟩] (dg [1,3,5,7,9,11,13,15,17,19,21,23,25,27,29,31,33,37]) [(dg [34]),(dg [38,41,43,45,47,49])] (dg [52,55,57,59]) (by kernel_rfl) (by kernel_rfl) (.cons eu .nil) ?_
 have k:=g3.drew
 refine aD rr rr<|aa.nilCheck rr rr<|bm eS rr rr<|c3 (j:=1) (o':=343) eQ rr rr rr (by omega) rr<|bO k rr rr (.cons 27 rr (.cons 28 rr (.cons 29 rr (.cons 30 rr (.cons 31 rr (.cons 32 rr (.cons 33 rr (.cons 34 rr (.cons 35 rr (.cons 36 rr (.cons 37 rr (.cons 38 rr (.cons 39 rr (.cons 40 rr (.cons 41 rr (.cons 42 rr (.cons 43 rr .nil))))))))))))))))) (by kernel_rfl)<|aD rr rr<|aa.nilCheck rr rr<|aa.fieldAddr 686 tx rr rr ?_
 refine c3 (j:=1) (o':=687) sG rr rr rr (by omega) rr<|aX k 46 rr rr rr (by omega) hr<|bO k rr rr (.cons (iG1000+51) x (.cons (iG1001+51) y (.cons (iG1002+51) z (.cons (iG1003+51) A (.cons (iG1004+51) E (.cons (iG1005+51) F .nil)))))) sm<|aa.fieldAddr 1 qO rr rr<|bO k rr rr (.cons 1 rr (.cons 2 rr (.cons 3 rr (.cons 4 rr (.cons 5 rr .nil))))) ei<|aa.fieldAddr 52 tr rr rr<|aX k 6 rr rr rr (by omega) hT<|aa.fieldAddr 54 sh rr rr ?_
 refine aX k 8 rr rr rr (by omega) pa<|aP k 9 rr rr rr ba ?_
 refine aa.nil ⟨_,[_,_,_,_,_,_,_,_,_,_,_,_,_,_,_,_,_,_,_,_,_,_,_,_,_,_,_,_,_,_,_,_,_,_,_,_,_,_,_,_,_,_,_,_,_,_,_,_,_,_,_],k,(ae.cons 9 rr (ae.cons 8 rr (ae.cons 6 rr (ae.parts (.cons 1 rr (.cons 2 rr (.cons 3 rr (.cons 4 rr (.cons 5 rr .nil))))) (ae.parts (.cons (iG1000+51) x (.cons (iG1001+51) y (.cons (iG1002+51) z (.cons (iG1003+51) A (.cons (iG1004+51) E (.cons (iG1005+51) F .nil)))))) (ae.cons 46 rr (ae.parts (.cons 27 rr (.cons 28 rr (.cons 29 rr (.cons 30 rr (.cons 31 rr (.cons 32 rr (.cons 33 rr (.cons 34 rr (.cons 35 rr (.cons 36 rr (.cons 37 rr (.cons 38 rr (.cons 39 rr (.cons 40 rr (.cons 41 rr (.cons 42 rr (.cons 43 rr .nil))))))))))))))))) ae.nil))))))),?_⟩
 refine PX.step fun g z51 no g6=>?_
 simp only [ah,ai] at g6
 refine q0 (X:=(d.getD f.toNat bg).2.2.2.2.2.2.2.2) g6 gB cq cw rr rr (fun _=>av.mix _ (aH.keep rr (aH.drop rr (aH.keep rr (aH.keep rr (aH.keep rr (aH.keep rr (aH.keep rr aH.nil))))))) (ae.cons 10 rr (ae.cons 7 rr (ae.parts (.cons 2 rr (.cons 3 rr (.cons 4 rr (.cons 5 rr (.cons 6 rr .nil))))) (ae.parts (.cons ((iG1000+g.length)+52) (c_ x g) (.cons ((iG1001+g.length)+52) (c_ y g) (.cons ((iG1002+g.length)+52) (c_ z g) (.cons ((iG1003+g.length)+52) (c_ A g) (.cons ((iG1004+g.length)+52) (c_ E g) (.cons ((iG1005+g.length)+52) (c_ F g) .nil)))))) (ae.cons 47 rr (ae.parts (.cons 28 rr (.cons 29 rr (.cons 30 rr (.cons 31 rr (.cons 32 rr (.cons 33 rr (.cons 34 rr (.cons 35 rr (.cons 36 rr (.cons 37 rr (.cons 38 rr (.cons 39 rr (.cons 40 rr (.cons 41 rr (.cons 42 rr (.cons 43 rr (.cons 44 rr .nil))))))))))))))))) ae.nil))))))) fun n5 n6 n7 n8 ms mt=>?_
 refine aa.nil ⟨_,[_,_,_,_,_,_,_,_,_,_,_,_,_,_,_,_,_,_,_,_,_,_,_,_,_,_,_,_,_,_,_,_,_,_,_,_,_,_,_,_,_,_,_,_,_,_,_,_,_,_,_,_],mt,(ae.cons 10 rr (ae.cons 7 rr (ae.parts (.cons 2 rr (.cons 3 rr (.cons 4 rr (.cons 5 rr (.cons 6 rr .nil))))) (ae.parts (.cons (iG1000+52) x (.cons (iG1001+52) y (.cons (iG1002+52) z (.cons (iG1003+52) A (.cons (iG1004+52) E (.cons (iG1005+52) F .nil)))))) (ae.cons 47 rr (ae.parts (.cons 28 rr (.cons 29 rr (.cons 30 rr (.cons 31 rr (.cons 32 rr (.cons 33 rr (.cons 34 rr (.cons 35 rr (.cons 36 rr (.cons 37 rr (.cons 38 rr (.cons 39 rr (.cons 40 rr (.cons 41 rr (.cons 42 rr (.cons 43 rr (.cons 44 rr .nil))))))))))))))))) ae.nil)))))),?_⟩
 refine PX.step fun l z53 ok g7=>?_
 simp only [ah,ai] at g7
 obtain ⟨g9,he,hi,hk,hm,hu,hw,hH,hO,h1,id,ii,io,ip,is,it,i0,i1,m0,t,m1,h⟩:=h
 refine aw yx (xC (iG1:=(iG1+l.length)+52) (c_ lc l) (iG2:=(iG2+l.length)+52) (c_ ld l) (iG3:=(iG3+l.length)+52) (c_ le l) (by exact (cZ gg f0 48 rr)) ((O.app l).app [_,_,_,_,_,_,_,_,_,_,_,_,_,_,_,_,_,_,_,_,_,_,_,_,_,_,_,_,_,_,_,_,_,_,_,_,_,_,_,_,_,_,_,_,_,_,_,_,_,_,_,_]) (by exact (ms.bx 0 rr)) m1 g7) ?_
 rintro _ ol ⟨i2,i3,on,i4,i5,op,or,os,pi,pl,rfl,m2,P,cs⟩
 try dsimp only at P cs
 obtain rfl:=P.hl
 obtain rfl:=cs.hl
 refine ⟨_,rr,.inr ⟨rr,?_⟩⟩
 refine bK rr rr<|b5 rr rr rr<|dh rr rr rr<|dh rr rr rr<|b' rr rr rr ?_
 refine aa.nil ⟨_,[_,_,_,_,_,_,_,_,_,_,_,_,_,_,_,_,_,_,_,_,_,_,_,_,_,_,_,_,_,_,_,_,_,_,_,_,_,_,_,_,_,_,_,_,_,_,_,_,_,_,_,_,_,_],m2,ae.nil,?_⟩
 refine PX.done (KE.step fun pm=>(KE.fin fun pp i6=>?_))
 simp only [ao,Nat.zero_add,Nat.reduceAdd,ah,ai] at i6
 refine bA (ps:= [p8 16 g9,p8 32 he,p8 32 hi,p8 32 hk,p8 32 hm,p8 32 hu,p8 32 hw,p4 hH,p4 hO,p4 h1,p4 id,p4 ii,p4 io,p8 32 ip,p8 32 is,p4 it,p8 64 i0]) i6 rr rr rr (cj.run 54) ⟨fun _ _=>rr,fun _ _=>rr,fun _ _=>rr,fun _ _=>rr,fun _ _=>rr,fun _ _=>rr,fun _ _=>rr,fun _ _=>rr,fun _ _=>rr,fun _ _=>rr,fun _ _=>rr,fun _ _=>rr,fun _ _=>rr,fun _ _=>rr,fun _ _=>rr,fun _ _=>rr,fun _ _=>rr,trivial⟩ (by kernel_rfl) (av.keep ae.nil) fun pu i7=>?_
 simp only [ao,List.take_succ_cons,List.take_zero,List.drop_succ_cons,List.drop_zero,List.length_cons,List.length_nil,Nat.zero_add,Nat.reduceAdd,List.cons_append,List.nil_append] at i7
 refine aV rr rr<|aV rr rr<|ak rr rr<|aa.fin g5 ?_;clear g5
 refine ad fun _ i8=>?_
 refine bd a7 [1,3,5,7,9,10] ?_
 have i9:=i7.drew
 refine aD rr rr<|bO i9 rr rr (.cons 54 rr (.cons 55 rr (.cons 56 rr (.cons 57 rr (.cons 58 rr (.cons 59 rr (.cons 60 rr (.cons 61 rr (.cons 62 rr (.cons 63 rr (.cons 64 rr (.cons 65 rr (.cons 66 rr (.cons 67 rr (.cons 68 rr (.cons 69 rr (.cons 70 rr .nil))))))))))))))))) (by kernel_rfl)<|aa.nilCheck rr rr<|bm eS rr rr<|c3 (j:=1) (o':=343) eQ rr rr rr (by omega) rr ?_
 refine bA (ps:= [p8 16 g9,p8 32 he,p8 32 hi,p8 32 hk,p8 32 hm,p8 32 hu,p8 32 hw,p4 hH,p4 hO,p4 h1,p4 id,p4 ii,p4 io,p8 32 ip,p8 32 is,p4 it,p8 64 i0]) i9 rr rr rr (cj.run 30) ⟨fun _ _=>rr,fun _ _=>rr,fun _ _=>rr,fun _ _=>rr,fun _ _=>rr,fun _ _=>rr,fun _ _=>rr,fun _ _=>rr,fun _ _=>rr,fun _ _=>rr,fun _ _=>rr,fun _ _=>rr,fun _ _=>rr,fun _ _=>rr,fun _ _=>rr,fun _ _=>rr,fun _ _=>rr,trivial⟩ (by kernel_rfl) (av.wait rr) fun qr jd=>?_
 simp only [ao,List.take_succ_cons,List.take_zero,List.drop_succ_cons,List.drop_zero,List.length_cons,List.length_nil,Nat.zero_add,Nat.reduceAdd,List.cons_append,List.nil_append] at jd
 refine aa.fin i8 ?_;clear i8
 refine ad fun _ jp=>ag 6 31 ?_
 refine aD rr rr<|aE rr rr<|aa.nilCheck rr rr<|aa.fieldAddr 686 tx rr rr<|c3 (j:=1) (o':=687) sG rr rr rr (by omega) rr ?_
 refine hY jd 49 rr rr rr rr rr r3 rr fun rc u=>?_
 simp only [ah,ai,aq,ar] at u
 refine aa.fin jp ?_;clear jp
 refine ad fun _ Q=>ag 10 1023 ?_
 refine aj rr rr ?_
 by_cases R:t=0
 ·
  replace h:=aA h R
  refine bI (a:=(((t:Nat):Int):Int)) (b:=(0:Int)) (p:=t=0) (v:=true) rr rr rr rr fL (decide_eq_true R)<|a_ rr rr<|aE rr rr ?_
  refine jH u (cs.bx 1 rr) cq cw gB rr rr fun rd rg=>?_
  refine aa.fieldAddr 53 Bn rr rr<|aX u 10 rr rr rr (by omega) pa ?_
  refine yL (v:=decide (m0=(d.getD f.toNat bg).2.2.2.2.2.2.2.1)) rr rr rr rr ?_
  refine b0 rr rr rr<|a8 rr rr<|aa.fin Q ?_;clear Q
  refine W.ret (aB ?_)
  have kk:=St.aF (C:= [_,_,_,_,_,_,_,_,_,_,_,_,_,_,_,_,_,_,_,_,_,_,_,_,_,_,_,_,_,_,_,_,_,_,_,_,_,_,_,_,_,_,_,_,_,_,_,_,_,_,_,_,_,_,_,_,_,_,_,_,_,_,_,_,_,_,_,_,_,_,_]) u [13,14,15,16,17,18,19,20,21,22,23,24,25,26,27,28,29,30,31,32,33,34,35,36,37,38,39,40,41,42,43,44,45,46,47,48,49,0,51,52,53] (by decide)
  simp only [pick,aL,aK,aM,aJ,ah,ai] at kk
  subst r
  refine ax.mk (.b2 rr .nil) ?_
  exact ⟨[],H,I,G.length,m,J,i2,i3,i1.length,i4,i5,K,M,d.length,n,N,rr,kk,cc,P,o⟩
 ·
  replace h:=az h R
  refine bI (a:=(((t:Nat):Int):Int)) (b:=(0:Int)) (p:=t=0) (v:=false) rr rr rr rr fL (decide_eq_false R)<|a_ rr rr<|al rr<|al rr<|al rr<|al rr<|al rr<|ca rr rr rr ?_
  refine a8 rr rr<|aa.fin Q ?_;clear Q
  refine W.ret (aB ?_)
  have kw:=St.aF (C:= [_,_,_,_,_,_,_,_,_,_,_,_,_,_,_,_,_,_,_,_,_,_,_,_,_,_,_,_,_,_,_,_,_,_,_,_,_,_,_,_,_,_,_,_,_,_,_,_,_,_,_,_,_,_,_,_,_,_,_,_,_,_,_,_,_,_,_,_,_,_,_]) u [13,14,15,16,17,18,19,20,21,22,23,24,25,26,27,28,29,30,31,32,33,34,35,36,37,38,39,40,41,42,43,44,45,46,47,48,49,0,51,52,53] (by decide)
  simp only [pick,aL,aK,aM,aJ,ah,ai] at kw
  subst r
  refine ax.mk (.b2 rr .nil) ?_
  exact ⟨[],H,I,G.length,m,J,i2,i3,i1.length,i4,i5,K,M,d.length,n,N,rr,kw,cc,P,o⟩
set_option maxRecDepth 8000 in
set_option maxHeartbeats 16000000 in
theorem yP {B:Nat} {w0:aC} {w:World} {L:List Rg} {iG1:Nat} (l:gT L iG1 1 8 .u32 cH) {iG2:Nat} (o:gT L iG2 2 64 .u32 bE) {es a4 a5:K8} {a9:U4} {be:K8} {bi bv:U4} {h:List af} {S:Option Addr} {ex T m7:Nat} (cd:Bx L m7 S ex T h) {d:List af} {s:Option Addr} {fd t m8:Nat} (u:Bx L m8 s fd t d) {r:(Bool×Bool)} (g:mu es a4 a5 a9 be bi bv h d r) (m9:St B w0 (L) w):
  Calls Tryz.prog 19 #[AG [p8 32 es],AG [p8 64 a4],AG [p8 16 a5,p4 a9,p8 32 be,p4 bi,p4 bv],.slice S ex T,.slice s fd t] w fun e w'=>e= .returned (.tuple #[.bool r.1,.bool r.2])∧St B w0 (L) w':=by
 refine W.enter 67 Tryz.func19 rr rr rr ?_
 unfold mu at g
 have m':=cd.hl;subst m'
 have ne:=u.hl;subst ne
 refine ad fun _ fn=>ag 5 24 ?_
 refine bp m9 rr rr ae.nil fun v3 v4 v5 f0=>?_
 simp only [ao,Nat.zero_add,Nat.reduceAdd,ah,ai] at f0
 refine bp f0 rr rr ae.nil fun y v6 v9 f1=>?_
 simp only [ao,Nat.zero_add,Nat.reduceAdd,ah,ai] at f1
 refine bp f1 rr rr ae.nil fun I wd wf f2=>?_
 simp only [ao,Nat.zero_add,Nat.reduceAdd,ah,ai] at f2
 refine a8 rr rr<|a8 rr rr<|aa.fin fn ?_;clear fn
 refine ad fun _ f3=>?_
 obtain ⟨H,J,nl,no⟩:=g
 refine bq (fun e w=>∃N:List af,∃ce:Nat,(H=N∧J=ce)∧∃ci:Option Addr,∃cl:Option Nat,∃O:Nat,∃co:Nat→af,aU e [(3,.slice S h.length T),(4,.slice s d.length t),(6,pt y 0),(7,pt I 0),(12,.slice ci N.length O),(13,VN ce)]∧St B w0 (gO cl O co::g8 I 0 16 a5::g4 I 16 a9::g8 I 17 32 be::g4 I 49 bi::g4 I 50 bv::g8 y 0 64 a4::L) w∧Ow ci cl N.length O co N) ?_ ?_
 ·
  replace g:=nl
  refine mI a7 (.fork (dg [3]) (.line (dg [0,4,6,8,11,13,15,17,19])) (.fork (dg [4]) (.line (dg [0,6,8,11,13,15,17,19])) (.line (dg [6,0,8,11,13,15,17,19])))) (by kernel_rfl) (dJ ?_)
  have f4:=f2.drew
  refine c8 (lo:=0) (hi:=32) (m:=32) (c:=32) (o':=0) c' rr rr rr rr (by omega) (by omega) (by omega) (by omega) ?_
  obtain ⟨cs,c1,c2,g⟩:=g
  refine dK ?_ ?_
  ·
   refine dd ?_
   refine j0 (len:=32) (c:=32) f4 eY rr rr rr (by omega) (by omega) (fun _=>av.keep ae.nil) fun wl wn wp n5 n6=>?_
   refine l6 ae.nil n6 (f:=fun q=>VU .u8 (lit ([108#8,101#8,116#8,104#8,101#8,32#8,115#8,101#8,97#8,108#8]:List af) q)) cq cw bJ df (by decide) (by decide) rr (fun _=>rr) (fun _=>rr) rr (by kernel_rfl) fun wr ws wt n7=>?_
   refine aw j6 (jm (iG1:=iG1+9) l (iG2:=iG2+9) o (by exact (n5.bx 1 rr)) (by exact (bH (n:=32) (cc:=32) 8 rr (by omega) (by omega))) (by exact (bH (n:=10) (cc:=10) 0 rr (by omega) (by omega))) c2 n7) ?_
   rintro _ ww ⟨n8,ok,xs,ol,on,rfl,f5,ds⟩
   try dsimp only at ds
   obtain rfl:=ds.hl
   refine ⟨_,rr,.inl ⟨ae.keep (by exact ae.nil) f5,?_⟩⟩
   refine bK rr rr<|dh rr rr rr<|b' rr rr rr<|aV rr rr<|ak rr rr<|aa.nil ?_
   exact ⟨cs,c1,g,n8,ok,ol,on,(ab (ab (ab (ab (ab (ab au)))))),bt 10 [0,3,4,5,6,7,8] f5,ds⟩
  ·
   refine dJ ?_
   refine yF ae.nil f4 (f:=fun q=>VU .u8 (lit ([108#8,101#8,116#8,104#8,101#8,32#8,115#8,101#8,97#8,108#8]:List af) q)) cq bJ df (by decide) (by decide) rr rr (by kernel_rfl) fun zf z0 f6 f7 f8=>?_
   refine dK ?_ ?_
   ·
    refine dd ?_
    refine xA (m:=32) (c:=32) ae.nil f8 eY rr rr rr (by omega) (by omega) fun z1 z2 z3 op or os=>?_
    have pi:=op _ _ f7
    refine pe ae.nil os f6 pi cq cw rr rr fun z4 pl=>?_
    refine aw j6 (jm (iG1:=iG1+9) l (iG2:=iG2+9) o (by exact (or.bx 0 rr)) (by exact (bH (n:=32) (cc:=32) 8 rr (by omega) (by omega))) (by exact (bH (n:=10) (cc:=10) 1 rr (by omega) (by omega))) c2 pl) ?_
    rintro _ z5 ⟨pm,pp,z9,pu,qr,rfl,f9,d0⟩
    try dsimp only at d0
    obtain rfl:=d0.hl
    refine ⟨_,rr,.inl ⟨ae.keep (by exact ae.nil) f9,?_⟩⟩
    refine bK rr rr<|dh rr rr rr<|b' rr rr rr<|aV rr rr<|ak rr rr<|aa.nil ?_
    exact ⟨cs,c1,g,pm,pp,pu,qr,(ab (ab (ab (ab (ab (ab au)))))),bt 10 [0,3,4,5,6,7,8] f9,d0⟩
   ·
    refine dd ?_
    refine pe ae.nil f8 f6 f7 cq cw rr rr fun At rc=>?_
    refine j0 (len:=32) (c:=32) rc eY rr rr rr (by omega) (by omega) (fun _=>av.keep ae.nil) fun AC Do Eq rd rg=>?_
    refine aw j6 (jm (iG1:=iG1+9) l (iG2:=iG2+9) o (by exact (rd.bx 0 rr)) (by exact (bH (n:=32) (cc:=32) 8 rr (by omega) (by omega))) (by exact (bH (n:=10) (cc:=10) 1 rr (by omega) (by omega))) c2 rg) ?_
    rintro _ EQ ⟨ro,rs,Fd,rt,rx,rfl,gc,d1⟩
    try dsimp only at d1
    obtain rfl:=d1.hl
    refine ⟨_,rr,.inl ⟨ae.keep (by exact ae.nil) gc,?_⟩⟩
    refine bK rr rr<|dh rr rr rr<|b' rr rr rr<|aV rr rr<|ak rr rr<|aa.nil ?_
    exact ⟨cs,c1,g,ro,rs,rt,rx,(ab (ab (ab (ab (ab (ab au)))))),bt 10 [0,3,4,5,6,7,8] gc,d1⟩
 ·
  rintro sp Fn ⟨N,ce,⟨st,sz⟩,ci,cl,O,co,s1,U,x⟩
  subst st
  subst sz
  obtain ⟨sp,rfl⟩:=s1.open
  replace g:=no
  refine f3 _ _ ?_;clear f3
  refine ad fun _ gd=>ad fun _ K=>?_
  refine ag 12 4095 ?_
  refine aj rr rr ?_
  by_cases V:J≠0
  ·
   replace g:=aA g V
   refine bI (a:=(((J:Nat):Int):Int)) (b:=(0:Int)) (p:=J≠0) (v:=true) rr rr rr rr cm (decide_eq_true V)<|a_ rr rr<|al rr<|al rr<|al rr<|b0 rr rr rr<|a_ rr rr<|al rr ?_
   refine al rr<|al rr<|b0 rr rr rr<|aa.fin K ?_;clear K
   refine aG rr ?_
   refine ad fun _ ge=>ag 2 3 ?_
   refine a8 rr rr<|a8 rr rr<|aa.fin ge ?_;clear ge
   refine W.ret (a' (aB ?_))
   have go:=St.aF (C:= [_,_,_,_,_,_,_]) U [] (by decide)
   simp only [pick,aL,aK,aM,aJ,ah,ai] at go
   subst r
   refine ax.mk (.b2 rr (.b2 rr .nil)) ?_
   exact ⟨rr,go⟩
  ·
   replace g:=az g V
   refine bI (a:=(((J:Nat):Int):Int)) (b:=(0:Int)) (p:=J≠0) (v:=false) rr rr rr rr cm (decide_eq_false V)<|a_ rr rr<|aE rr rr<|aa.len cB rr rr ?_
   by_cases X:H.length≠80
   ·
    replace g:=aA g X
    refine bI (a:=(((H.length:Nat):Int):Int)) (b:=(80:Int)) (p:=H.length≠80) (v:=true) rr rr rr rr cm (decide_eq_true X)<|ca rr rr rr<|a_ rr rr<|al rr<|al rr<|al rr<|b0 rr rr rr<|aa.fin K ?_;clear K
    refine aG rr ?_
    refine ad fun _ gs=>ag 2 3 ?_
    refine a8 rr rr<|a8 rr rr<|aa.fin gs ?_;clear gs
    refine W.ret (a' (aB ?_))
    have gt:=St.aF (C:= [_,_,_,_,_,_,_]) U [] (by decide)
    simp only [pick,aL,aK,aM,aJ,ah,ai] at gt
    subst r
    refine ax.mk (.b2 rr (.b2 rr .nil)) ?_
    exact ⟨rr,gt⟩
   ·
    replace g:=az g X
    refine bI (a:=(((H.length:Nat):Int):Int)) (b:=(80:Int)) (p:=H.length≠80) (v:=false) rr rr rr rr cm (decide_eq_false X)<|ca rr rr rr<|a_ rr rr<|aE rr rr<|aa.len cB rr rr<|aR (a:=(((h.length:Nat):Int):Int)) (b:=(32:Int)) (p:=h.length < 32) rr rr rr rr bW<|ca rr rr rr<|aa.fin K ?_;clear K
    by_cases Y:h.length < 32
    ·
     replace g:=aA g Y
     refine aG (congrArg Value.bool (decide_eq_true Y)) ?_
     refine ad fun _ g0=>ag 2 3 ?_
     refine a8 rr rr<|a8 rr rr<|aa.fin g0 ?_;clear g0
     refine W.ret (a' (aB ?_))
     have g1:=St.aF (C:= [_,_,_,_,_,_,_]) U [] (by decide)
     simp only [pick,aL,aK,aM,aJ,ah,ai] at g1
     subst r
     refine ax.mk (.b2 rr (.b2 rr .nil)) ?_
     exact ⟨rr,g1⟩
    ·
     replace g:=az g Y
     refine aO (congrArg Value.bool (decide_eq_false Y)) ?_
     refine W.skip ?_
     refine gd _ _ ?_;clear gd
     refine ad fun _ g2=>ag 4 15 ?_
     refine aE rr rr<|aa.len cB rr rr ?_
     obtain ⟨Fr,g⟩:=g
     refine d' (a:=((h.length:Nat):Int)) (b:=32) rr rr rr (by omega)<|ak rr rr<|aa.fin g2 ?_;clear g2
     refine ad fun _ g3=>ag 4 15 ?_
     refine aE rr rr<|aa.len cB rr rr ?_
     obtain ⟨FS,g⟩:=g
     refine bu (a:=124) (b:=d.length) rr rr rr (by omega)<|ak rr rr<|aa.fin g3 ?_;clear g3
     refine ad fun _ g5=>?_
     obtain ⟨g6,s2,s3⟩:=g
     refine bq (fun e w=>∃d2:K8,(g6=d2)∧∃d3:Nat,aU e [(3,.slice S h.length T),(14,.int .i64 (((h.length:Nat):Int) - 32)),(16,pt d3 0)]∧St B w0 (g8 d3 0 32 d2::L) w) ?_ ?_
     ·
      replace g:=s2
      refine mI a7 (.fork (dg [1,3,5,7,11,13,15,17,19,21,23,25,27]) (.fork (dg [8]) (.fork (dg [28]) (.fork (dg [30]) (.line (dg [32,34,36])) (.line (dg [34,32,36]))) (.line (dg [34,30,32,36]))) (.line (dg [34,28,30,32,36]))) (.fork [] (.fork (dg [28]) (.fork (dg [8]) (.fork (dg [30]) (.line (dg [32,34,36])) (.line (dg [34,32,36]))) (.line (dg [34,30,32,36]))) (.line (dg [34,8,30,32,36]))) (.fork (dg [34]) (.line (dg [8,28,30,32,36])) (.line (dg [28,8,30,32,36]))))) (by kernel_rfl) (dJ ?_)
      have Z:=U.drew
      refine aE rr rr ?_
      obtain ⟨z,g⟩:=g
      have Go:H.length≤O:=x.hc
      refine gF (lo:=32) (hi:=64) b4 rr rr ⟨_,rr⟩ ⟨_,rr⟩ (by omega)<|c8 (lo:=0) (hi:=64) (m:=64) (c:=64) (o':=0) dX rr rr rr rr (by omega) (by omega) (by omega) (by omega)<|bO Z rr rr (.cons 1 rr (.cons 2 rr (.cons 3 rr (.cons 4 rr (.cons 5 rr .nil))))) ei<|aE rr rr<|aE rr rr<|aj rr rr ?_
      obtain ⟨s4,g⟩:=g
      obtain ⟨s5,g⟩:=g
      refine e6 (lo:=0) (hi:=(((h.length:Nat):Int) - 32).toNat) cd b4 rr rr rr ⟨_,congrArg (Value.int .i64) (Int.toNat_of_nonneg s4).symm⟩ s5 fun E F A=>?_
      refine aj rr rr ?_
      obtain ⟨GE,g⟩:=g
      refine De (a:=(124+d.length)) (c:=8) rr rr rr (by omega)<|kf .u8 (a:=((124+d.length) / 2 ^ 8)) cw e_ rr rr<|aj rr rr<|kf .u8 (a:=(124+d.length)) cw e_ rr rr ?_
      obtain ⟨G,P,g⟩:=g
      obtain ⟨GO,GP,g⟩:=g
      obtain ⟨GQ,GR,g⟩:=g
      obtain ⟨GS,GT,g⟩:=g
      obtain ⟨j,D,g⟩:=g
      refine dK ?_ ?_
      ·
       refine dJ ?_
       refine aw kV (lk P Z) ?_
       rintro _ GU ⟨d4,GV,GW,d5,GX,rfl,g7,Q⟩
       obtain rfl:=Q.hl
       refine ⟨_,rr,.inr ⟨rr,?_⟩⟩
       refine dK ?_ ?_
       ·
        refine dJ ?_
        refine aa.buildSlice g7 (ps:= [p8 8 (lit ([0#8,0#8,0#8,0#8,0#8,0#8,(BitVec.ofNat 8 ((124+d.length) / 2 ^ 8)),(BitVec.ofNat 8 (124+d.length))]:List af))]) cq bJ df (by decide) (by decide) rr rr rr (av.keep ae.nil) fun R GY GZ d6=>?_
        simp only [ao,List.cons_append,List.nil_append] at d6
        have d7:Ow (some ⟨R,0,none⟩) (some R) ([0#8,0#8,0#8,0#8,0#8,0#8,(BitVec.ofNat 8 ((124+d.length) / 2 ^ 8)),(BitVec.ofNat 8 (124+d.length))]:List af).length 8 (lit ([0#8,0#8,0#8,0#8,0#8,0#8,(BitVec.ofNat 8 ((124+d.length) / 2 ^ 8)),(BitVec.ofNat 8 (124+d.length))]:List af)) ([0#8,0#8,0#8,0#8,0#8,0#8,(BitVec.ofNat 8 ((124+d.length) / 2 ^ 8)),(BitVec.ofNat 8 (124+d.length))]:List af):=⟨.inr ⟨R,rfl,rfl⟩,Nat.le_refl _,rfl,fun q _=>rfl⟩
        refine dK ?_ ?_
        ·
         refine dJ ?_
         refine aa.buildSlice d6 (ps:= [(5,fun i=> .slice ((fun i=>([some ⟨y,0,none⟩,d4,s,E,some ⟨R,0,none⟩]:List (Option Addr)).getD i none) i) ((fun i=>([64,G.length,d.length,(aT h 0 ((((h.length:Nat):Int) - 32).toNat)).length,([0#8,0#8,0#8,0#8,0#8,0#8,(BitVec.ofNat 8 ((124+d.length) / 2 ^ 8)),(BitVec.ofNat 8 (124+d.length))]:List af).length]:List Nat).getD i 0) i) ((fun i=>([64,d5,t,F,8]:List Nat).getD i 0) i))]) cV cW cU (by decide) (by decide) rr rr rr (av.keep ae.nil) fun G0 G1 G2 d8=>?_
         simp only [ao,List.cons_append,List.nil_append] at d8
         refine dK ?_ ?_
         ·
          refine dd ?_
          refine aw cS (cR (iG1:=iG1+10) l (iG2:=iG2+10) o (by exact ((x.bx 3 rr).aT (lo:=32) (hi:=64) z)) (by exact (bR.of 0 rr rr (fun i hi=>match i,hi with | 0,_=>⟨_,(bH (n:=64) (cc:=64) 9 rr (by omega) (by omega))⟩ | 1,_=>⟨_,(Q.bx 2 rr)⟩ | 2,_=>⟨_,(u.app [_,_,_,_,_,_,_,_,_,_])⟩ | 3,_=>⟨_,(A.app [_,_,_,_,_,_,_,_,_,_])⟩ | 4,_=>⟨_,(d7.bx 1 rr)⟩ | k+5,hk=>absurd hk (by omega)))) D d8) ?_
          rintro _ G3 ⟨rfl,g9⟩
          refine ⟨_,rr,.inl ⟨ae.keep (by exact ae.nil) g9,?_⟩⟩
          refine aa.alloc g9 rr dZ ae.nil fun s6 G4 G5 he=>?_
          simp only [ao,Nat.zero_add,Nat.reduceAdd,ah,ai] at he
          refine aY (f':=fun q=>VU .u8 (j q)) he 0 rr rr rr rr (fun _ _=>rr) dV rr fun G6 hm=>?_
          simp only [ah,ai,aq,ar] at hm
          refine aa.nil ?_
          exact ⟨j,g,s6,(ab (ab (ab au))),bt 11 [0] hm⟩
         ·
          refine dd ?_
          refine aa.alloc d8 rr dZ ae.nil fun s7 G7 G8 hu=>?_
          simp only [ao,Nat.zero_add,Nat.reduceAdd,ah,ai] at hu
          refine aw cS (cR (iG1:=iG1+11) l (iG2:=iG2+11) o (by exact ((x.bx 4 rr).aT (lo:=32) (hi:=64) z)) (by exact (bR.of 1 rr rr (fun i hi=>match i,hi with | 0,_=>⟨_,(bH (n:=64) (cc:=64) 10 rr (by omega) (by omega))⟩ | 1,_=>⟨_,(Q.bx 3 rr)⟩ | 2,_=>⟨_,(u.app [_,_,_,_,_,_,_,_,_,_,_])⟩ | 3,_=>⟨_,(A.app [_,_,_,_,_,_,_,_,_,_,_])⟩ | 4,_=>⟨_,(d7.bx 2 rr)⟩ | k+5,hk=>absurd hk (by omega)))) D hu) ?_
          rintro _ G9 ⟨rfl,hw⟩
          refine ⟨_,rr,.inl ⟨ae.keep (by exact ae.nil) hw,?_⟩⟩
          refine aY (f':=fun q=>VU .u8 (j q)) hw 0 rr rr rr rr (fun _ _=>rr) dV rr fun G_ hH=>?_
          simp only [ah,ai,aq,ar] at hH
          refine aa.nil ?_
          exact ⟨j,g,s7,(ab (ab (ab au))),bt 11 [0] hH⟩
        ·
         refine dd ?_
         refine aa.alloc d6 rr dZ ae.nil fun s8 G' Ha hO=>?_
         simp only [ao,Nat.zero_add,Nat.reduceAdd,ah,ai] at hO
         refine aa.buildSlice hO (ps:= [(5,fun i=> .slice ((fun i=>([some ⟨y,0,none⟩,d4,s,E,some ⟨R,0,none⟩]:List (Option Addr)).getD i none) i) ((fun i=>([64,G.length,d.length,(aT h 0 ((((h.length:Nat):Int) - 32).toNat)).length,([0#8,0#8,0#8,0#8,0#8,0#8,(BitVec.ofNat 8 ((124+d.length) / 2 ^ 8)),(BitVec.ofNat 8 (124+d.length))]:List af).length]:List Nat).getD i 0) i) ((fun i=>([64,d5,t,F,8]:List Nat).getD i 0) i))]) cV cW cU (by decide) (by decide) rr rr rr (av.keep ae.nil) fun Hb Hc He h1=>?_
         simp only [ao,List.cons_append,List.nil_append] at h1
         refine aw cS (cR (iG1:=iG1+11) l (iG2:=iG2+11) o (by exact ((x.bx 4 rr).aT (lo:=32) (hi:=64) z)) (by exact (bR.of 0 rr rr (fun i hi=>match i,hi with | 0,_=>⟨_,(bH (n:=64) (cc:=64) 10 rr (by omega) (by omega))⟩ | 1,_=>⟨_,(Q.bx 3 rr)⟩ | 2,_=>⟨_,(u.app [_,_,_,_,_,_,_,_,_,_,_])⟩ | 3,_=>⟨_,(A.app [_,_,_,_,_,_,_,_,_,_,_])⟩ | 4,_=>⟨_,(d7.bx 2 rr)⟩ | k+5,hk=>absurd hk (by omega)))) D h1) ?_
         rintro _ Hf ⟨rfl,id⟩
         refine ⟨_,rr,.inl ⟨ae.keep (by exact ae.nil) id,?_⟩⟩
         refine aY (f':=fun q=>VU .u8 (j q)) id 1 rr rr rr rr (fun _ _=>rr) dV rr fun Hg ii=>?_
         simp only [ah,ai,aq,ar] at ii
         refine aa.nil ?_
         exact ⟨j,g,s8,(ab (ab (ab au))),bt 11 [1] ii⟩
       ·
        refine dd ?_
        refine aa.alloc g7 rr dZ ae.nil fun s9 Hh Hi io=>?_
        simp only [ao,Nat.zero_add,Nat.reduceAdd,ah,ai] at io
        refine aa.buildSlice io (ps:= [p8 8 (lit ([0#8,0#8,0#8,0#8,0#8,0#8,(BitVec.ofNat 8 ((124+d.length) / 2 ^ 8)),(BitVec.ofNat 8 (124+d.length))]:List af))]) cq bJ df (by decide) (by decide) rr rr rr (av.keep ae.nil) fun am Hj Hk ip=>?_
        simp only [ao,List.cons_append,List.nil_append] at ip
        have s':Ow (some ⟨am,0,none⟩) (some am) ([0#8,0#8,0#8,0#8,0#8,0#8,(BitVec.ofNat 8 ((124+d.length) / 2 ^ 8)),(BitVec.ofNat 8 (124+d.length))]:List af).length 8 (lit ([0#8,0#8,0#8,0#8,0#8,0#8,(BitVec.ofNat 8 ((124+d.length) / 2 ^ 8)),(BitVec.ofNat 8 (124+d.length))]:List af)) ([0#8,0#8,0#8,0#8,0#8,0#8,(BitVec.ofNat 8 ((124+d.length) / 2 ^ 8)),(BitVec.ofNat 8 (124+d.length))]:List af):=⟨.inr ⟨am,rfl,rfl⟩,Nat.le_refl _,rfl,fun q _=>rfl⟩
        refine aa.buildSlice ip (ps:= [(5,fun i=> .slice ((fun i=>([some ⟨y,0,none⟩,d4,s,E,some ⟨am,0,none⟩]:List (Option Addr)).getD i none) i) ((fun i=>([64,G.length,d.length,(aT h 0 ((((h.length:Nat):Int) - 32).toNat)).length,([0#8,0#8,0#8,0#8,0#8,0#8,(BitVec.ofNat 8 ((124+d.length) / 2 ^ 8)),(BitVec.ofNat 8 (124+d.length))]:List af).length]:List Nat).getD i 0) i) ((fun i=>([64,d5,t,F,8]:List Nat).getD i 0) i))]) cV cW cU (by decide) (by decide) rr rr rr (av.keep ae.nil) fun Hl Hm Hn is=>?_
        simp only [ao,List.cons_append,List.nil_append] at is
        refine aw cS (cR (iG1:=iG1+11) l (iG2:=iG2+11) o (by exact ((x.bx 4 rr).aT (lo:=32) (hi:=64) z)) (by exact (bR.of 0 rr rr (fun i hi=>match i,hi with | 0,_=>⟨_,(bH (n:=64) (cc:=64) 10 rr (by omega) (by omega))⟩ | 1,_=>⟨_,(Q.bx 3 rr)⟩ | 2,_=>⟨_,(u.app [_,_,_,_,_,_,_,_,_,_,_])⟩ | 3,_=>⟨_,(A.app [_,_,_,_,_,_,_,_,_,_,_])⟩ | 4,_=>⟨_,(s'.bx 1 rr)⟩ | k+5,hk=>absurd hk (by omega)))) D is) ?_
        rintro _ Ho ⟨rfl,it⟩
        refine ⟨_,rr,.inl ⟨ae.keep (by exact ae.nil) it,?_⟩⟩
        refine aY (f':=fun q=>VU .u8 (j q)) it 2 rr rr rr rr (fun _ _=>rr) dV rr fun Hp i0=>?_
        simp only [ah,ai,aq,ar] at i0
        refine aa.nil ?_
        exact ⟨j,g,s9,(ab (ab (ab au))),bt 11 [2] i0⟩
      ·
       refine dJ ?_
       refine dK ?_ ?_
       ·
        refine dJ ?_
        refine aa.buildSlice Z (ps:= [p8 8 (lit ([0#8,0#8,0#8,0#8,0#8,0#8,(BitVec.ofNat 8 ((124+d.length) / 2 ^ 8)),(BitVec.ofNat 8 (124+d.length))]:List af))]) cq bJ df (by decide) (by decide) rr rr rr (av.keep (ae.parts (.cons 1 rr (.cons 2 rr (.cons 3 rr (.cons 4 rr (.cons 5 rr .nil))))) ae.nil)) fun M Hq Hr d9=>?_
        simp only [ao,List.cons_append,List.nil_append] at d9
        have ap:Ow (some ⟨M,0,none⟩) (some M) ([0#8,0#8,0#8,0#8,0#8,0#8,(BitVec.ofNat 8 ((124+d.length) / 2 ^ 8)),(BitVec.ofNat 8 (124+d.length))]:List af).length 8 (lit ([0#8,0#8,0#8,0#8,0#8,0#8,(BitVec.ofNat 8 ((124+d.length) / 2 ^ 8)),(BitVec.ofNat 8 (124+d.length))]:List af)) ([0#8,0#8,0#8,0#8,0#8,0#8,(BitVec.ofNat 8 ((124+d.length) / 2 ^ 8)),(BitVec.ofNat 8 (124+d.length))]:List af):=⟨.inr ⟨M,rfl,rfl⟩,Nat.le_refl _,rfl,fun q _=>rfl⟩
        refine dK ?_ ?_
        ·
         refine dJ ?_
         refine aw kV (lk P d9) ?_
         rintro _ Hs ⟨i1,Ht,Hu,i2,Hv,rfl,i3,a0⟩
         obtain rfl:=a0.hl
         refine ⟨_,rr,.inr ⟨rr,?_⟩⟩
         refine dK ?_ ?_
         ·
          refine dJ ?_
          refine aa.buildSlice i3 (ps:= [(5,fun i=> .slice ((fun i=>([some ⟨y,0,none⟩,i1,s,E,some ⟨M,0,none⟩]:List (Option Addr)).getD i none) i) ((fun i=>([64,G.length,d.length,(aT h 0 ((((h.length:Nat):Int) - 32).toNat)).length,([0#8,0#8,0#8,0#8,0#8,0#8,(BitVec.ofNat 8 ((124+d.length) / 2 ^ 8)),(BitVec.ofNat 8 (124+d.length))]:List af).length]:List Nat).getD i 0) i) ((fun i=>([64,i2,t,F,8]:List Nat).getD i 0) i))]) cV cW cU (by decide) (by decide) rr rr rr (av.keep ae.nil) fun Hw Hx Hy el=>?_
          simp only [ao,List.cons_append,List.nil_append] at el
          refine dK ?_ ?_
          ·
           refine dd ?_
           refine aw cS (cR (iG1:=iG1+10) l (iG2:=iG2+10) o (by exact ((x.bx 3 rr).aT (lo:=32) (hi:=64) z)) (by exact (bR.of 0 rr rr (fun i hi=>match i,hi with | 0,_=>⟨_,(bH (n:=64) (cc:=64) 9 rr (by omega) (by omega))⟩ | 1,_=>⟨_,(a0.bx 1 rr)⟩ | 2,_=>⟨_,(u.app [_,_,_,_,_,_,_,_,_,_])⟩ | 3,_=>⟨_,(A.app [_,_,_,_,_,_,_,_,_,_])⟩ | 4,_=>⟨_,(ap.bx 2 rr)⟩ | k+5,hk=>absurd hk (by omega)))) D el) ?_
           rintro _ Hz ⟨rfl,i4⟩
           refine ⟨_,rr,.inl ⟨ae.keep (by exact ae.nil) i4,?_⟩⟩
           refine aa.alloc i4 rr dZ ae.nil fun to HA HB i5=>?_
           simp only [ao,Nat.zero_add,Nat.reduceAdd,ah,ai] at i5
           refine aY (f':=fun q=>VU .u8 (j q)) i5 0 rr rr rr rr (fun _ _=>rr) dV rr fun HC i6=>?_
           simp only [ah,ai,aq,ar] at i6
           refine aa.nil ?_
           exact ⟨j,g,to,(ab (ab (ab au))),bt 11 [0] i6⟩
          ·
           refine dd ?_
           refine aa.alloc el rr dZ ae.nil fun ty HD HE i7=>?_
           simp only [ao,Nat.zero_add,Nat.reduceAdd,ah,ai] at i7
           refine aw cS (cR (iG1:=iG1+11) l (iG2:=iG2+11) o (by exact ((x.bx 4 rr).aT (lo:=32) (hi:=64) z)) (by exact (bR.of 1 rr rr (fun i hi=>match i,hi with | 0,_=>⟨_,(bH (n:=64) (cc:=64) 10 rr (by omega) (by omega))⟩ | 1,_=>⟨_,(a0.bx 2 rr)⟩ | 2,_=>⟨_,(u.app [_,_,_,_,_,_,_,_,_,_,_])⟩ | 3,_=>⟨_,(A.app [_,_,_,_,_,_,_,_,_,_,_])⟩ | 4,_=>⟨_,(ap.bx 3 rr)⟩ | k+5,hk=>absurd hk (by omega)))) D i7) ?_
           rintro _ HF ⟨rfl,i8⟩
           refine ⟨_,rr,.inl ⟨ae.keep (by exact ae.nil) i8,?_⟩⟩
           refine aY (f':=fun q=>VU .u8 (j q)) i8 0 rr rr rr rr (fun _ _=>rr) dV rr fun HG i9=>?_
           simp only [ah,ai,aq,ar] at i9
           refine aa.nil ?_
           exact ⟨j,g,ty,(ab (ab (ab au))),bt 11 [0] i9⟩
         ·
          refine dd ?_
          refine aa.alloc i3 rr dZ ae.nil fun t0 HH HI jd=>?_
          simp only [ao,Nat.zero_add,Nat.reduceAdd,ah,ai] at jd
          refine aa.buildSlice jd (ps:= [(5,fun i=> .slice ((fun i=>([some ⟨y,0,none⟩,i1,s,E,some ⟨M,0,none⟩]:List (Option Addr)).getD i none) i) ((fun i=>([64,G.length,d.length,(aT h 0 ((((h.length:Nat):Int) - 32).toNat)).length,([0#8,0#8,0#8,0#8,0#8,0#8,(BitVec.ofNat 8 ((124+d.length) / 2 ^ 8)),(BitVec.ofNat 8 (124+d.length))]:List af).length]:List Nat).getD i 0) i) ((fun i=>([64,i2,t,F,8]:List Nat).getD i 0) i))]) cV cW cU (by decide) (by decide) rr rr rr (av.keep ae.nil) fun HJ HK HL jp=>?_
          simp only [ao,List.cons_append,List.nil_append] at jp
          refine aw cS (cR (iG1:=iG1+11) l (iG2:=iG2+11) o (by exact ((x.bx 4 rr).aT (lo:=32) (hi:=64) z)) (by exact (bR.of 0 rr rr (fun i hi=>match i,hi with | 0,_=>⟨_,(bH (n:=64) (cc:=64) 10 rr (by omega) (by omega))⟩ | 1,_=>⟨_,(a0.bx 2 rr)⟩ | 2,_=>⟨_,(u.app [_,_,_,_,_,_,_,_,_,_,_])⟩ | 3,_=>⟨_,(A.app [_,_,_,_,_,_,_,_,_,_,_])⟩ | 4,_=>⟨_,(ap.bx 3 rr)⟩ | k+5,hk=>absurd hk (by omega)))) D jp) ?_
          rintro _ HM ⟨rfl,kk⟩
          refine ⟨_,rr,.inl ⟨ae.keep (by exact ae.nil) kk,?_⟩⟩
          refine aY (f':=fun q=>VU .u8 (j q)) kk 1 rr rr rr rr (fun _ _=>rr) dV rr fun HN kw=>?_
          simp only [ah,ai,aq,ar] at kw
          refine aa.nil ?_
          exact ⟨j,g,t0,(ab (ab (ab au))),bt 11 [1] kw⟩
        ·
         refine dd ?_
         refine aa.alloc d9 rr dZ (ae.parts (.cons 2 rr (.cons 3 rr (.cons 4 rr (.cons 5 rr (.cons 6 rr .nil))))) ae.nil) fun t1 HO HP lc=>?_
         simp only [ao,Nat.zero_add,Nat.reduceAdd,ah,ai] at lc
         refine aw kV (lk P lc) ?_
         rintro _ HQ ⟨t2,HR,HS,t3,HT,rfl,t4,ld⟩
         obtain rfl:=ld.hl
         refine ⟨_,rr,.inr ⟨rr,?_⟩⟩
         refine aa.buildSlice t4 (ps:= [(5,fun i=> .slice ((fun i=>([some ⟨y,0,none⟩,t2,s,E,some ⟨M,0,none⟩]:List (Option Addr)).getD i none) i) ((fun i=>([64,G.length,d.length,(aT h 0 ((((h.length:Nat):Int) - 32).toNat)).length,([0#8,0#8,0#8,0#8,0#8,0#8,(BitVec.ofNat 8 ((124+d.length) / 2 ^ 8)),(BitVec.ofNat 8 (124+d.length))]:List af).length]:List Nat).getD i 0) i) ((fun i=>([64,t3,t,F,8]:List Nat).getD i 0) i))]) cV cW cU (by decide) (by decide) rr rr rr (av.keep ae.nil) fun HU HV HW le=>?_
         simp only [ao,List.cons_append,List.nil_append] at le
         refine aw cS (cR (iG1:=iG1+11) l (iG2:=iG2+11) o (by exact ((x.bx 4 rr).aT (lo:=32) (hi:=64) z)) (by exact (bR.of 0 rr rr (fun i hi=>match i,hi with | 0,_=>⟨_,(bH (n:=64) (cc:=64) 10 rr (by omega) (by omega))⟩ | 1,_=>⟨_,(ld.bx 1 rr)⟩ | 2,_=>⟨_,(u.app [_,_,_,_,_,_,_,_,_,_,_])⟩ | 3,_=>⟨_,(A.app [_,_,_,_,_,_,_,_,_,_,_])⟩ | 4,_=>⟨_,(ap.bx 3 rr)⟩ | k+5,hk=>absurd hk (by omega)))) D le) ?_
         rintro _ HX ⟨rfl,li⟩
         refine ⟨_,rr,.inl ⟨ae.keep (by exact ae.nil) li,?_⟩⟩
         refine aY (f':=fun q=>VU .u8 (j q)) li 2 rr rr rr rr (fun _ _=>rr) dV rr fun HY lm=>?_
         simp only [ah,ai,aq,ar] at lm
         refine aa.nil ?_
         exact ⟨j,g,t1,(ab (ab (ab au))),bt 11 [2] lm⟩
       ·
        refine dJ ?_
        refine aa.alloc Z rr dZ (ae.parts (.cons 1 rr (.cons 2 rr (.cons 3 rr (.cons 4 rr (.cons 5 rr .nil))))) ae.nil) fun ls HZ H1 em=>?_
        simp only [ao,Nat.zero_add,Nat.reduceAdd,ah,ai] at em
        refine dK ?_ ?_
        ·
         refine dd ?_
         refine aw kV (lk P em) ?_
         rintro _ H2 ⟨t5,H3,H4,t6,H5,rfl,t7,lt⟩
         obtain rfl:=lt.hl
         refine ⟨_,rr,.inr ⟨rr,?_⟩⟩
         refine aa.buildSlice t7 (ps:= [p8 8 (lit ([0#8,0#8,0#8,0#8,0#8,0#8,(BitVec.ofNat 8 ((124+d.length) / 2 ^ 8)),(BitVec.ofNat 8 (124+d.length))]:List af))]) cq bJ df (by decide) (by decide) rr rr rr (av.keep ae.nil) fun a2 H6 H7 lw=>?_
         simp only [ao,List.cons_append,List.nil_append] at lw
         have t8:Ow (some ⟨a2,0,none⟩) (some a2) ([0#8,0#8,0#8,0#8,0#8,0#8,(BitVec.ofNat 8 ((124+d.length) / 2 ^ 8)),(BitVec.ofNat 8 (124+d.length))]:List af).length 8 (lit ([0#8,0#8,0#8,0#8,0#8,0#8,(BitVec.ofNat 8 ((124+d.length) / 2 ^ 8)),(BitVec.ofNat 8 (124+d.length))]:List af)) ([0#8,0#8,0#8,0#8,0#8,0#8,(BitVec.ofNat 8 ((124+d.length) / 2 ^ 8)),(BitVec.ofNat 8 (124+d.length))]:List af):=⟨.inr ⟨a2,rfl,rfl⟩,Nat.le_refl _,rfl,fun q _=>rfl⟩
         refine aa.buildSlice lw (ps:= [(5,fun i=> .slice ((fun i=>([some ⟨y,0,none⟩,t5,s,E,some ⟨a2,0,none⟩]:List (Option Addr)).getD i none) i) ((fun i=>([64,G.length,d.length,(aT h 0 ((((h.length:Nat):Int) - 32).toNat)).length,([0#8,0#8,0#8,0#8,0#8,0#8,(BitVec.ofNat 8 ((124+d.length) / 2 ^ 8)),(BitVec.ofNat 8 (124+d.length))]:List af).length]:List Nat).getD i 0) i) ((fun i=>([64,t6,t,F,8]:List Nat).getD i 0) i))]) cV cW cU (by decide) (by decide) rr rr rr (av.keep ae.nil) fun H9 H_ H' md=>?_
         simp only [ao,List.cons_append,List.nil_append] at md
         refine aw cS (cR (iG1:=iG1+11) l (iG2:=iG2+11) o (by exact ((x.bx 4 rr).aT (lo:=32) (hi:=64) z)) (by exact (bR.of 0 rr rr (fun i hi=>match i,hi with | 0,_=>⟨_,(bH (n:=64) (cc:=64) 10 rr (by omega) (by omega))⟩ | 1,_=>⟨_,(lt.bx 2 rr)⟩ | 2,_=>⟨_,(u.app [_,_,_,_,_,_,_,_,_,_,_])⟩ | 3,_=>⟨_,(A.app [_,_,_,_,_,_,_,_,_,_,_])⟩ | 4,_=>⟨_,(t8.bx 1 rr)⟩ | k+5,hk=>absurd hk (by omega)))) D md) ?_
         rintro _ Ia ⟨rfl,mp⟩
         refine ⟨_,rr,.inl ⟨ae.keep (by exact ae.nil) mp,?_⟩⟩
         refine aY (f':=fun q=>VU .u8 (j q)) mp 3 rr rr rr rr (fun _ _=>rr) dV rr fun Ib ms=>?_
         simp only [ah,ai,aq,ar] at ms
         refine aa.nil ?_
         exact ⟨j,g,ls,(ab (ab (ab au))),bt 11 [3] ms⟩
        ·
         refine dd ?_
         refine aa.buildSlice em (ps:= [p8 8 (lit ([0#8,0#8,0#8,0#8,0#8,0#8,(BitVec.ofNat 8 ((124+d.length) / 2 ^ 8)),(BitVec.ofNat 8 (124+d.length))]:List af))]) cq bJ df (by decide) (by decide) rr rr rr (av.keep (ae.parts (.cons 2 rr (.cons 3 rr (.cons 4 rr (.cons 5 rr (.cons 6 rr .nil))))) ae.nil)) fun a3 Ic Id mt=>?_
         simp only [ao,List.cons_append,List.nil_append] at mt
         have t9:Ow (some ⟨a3,0,none⟩) (some a3) ([0#8,0#8,0#8,0#8,0#8,0#8,(BitVec.ofNat 8 ((124+d.length) / 2 ^ 8)),(BitVec.ofNat 8 (124+d.length))]:List af).length 8 (lit ([0#8,0#8,0#8,0#8,0#8,0#8,(BitVec.ofNat 8 ((124+d.length) / 2 ^ 8)),(BitVec.ofNat 8 (124+d.length))]:List af)) ([0#8,0#8,0#8,0#8,0#8,0#8,(BitVec.ofNat 8 ((124+d.length) / 2 ^ 8)),(BitVec.ofNat 8 (124+d.length))]:List af):=⟨.inr ⟨a3,rfl,rfl⟩,Nat.le_refl _,rfl,fun q _=>rfl⟩
         refine aw kV (lk P mt) ?_
         rintro _ Ie ⟨t',If,Ig,ul,Ih,rfl,un,m0⟩
         obtain rfl:=m0.hl
         refine ⟨_,rr,.inr ⟨rr,?_⟩⟩
         refine aa.buildSlice un (ps:= [(5,fun i=> .slice ((fun i=>([some ⟨y,0,none⟩,t',s,E,some ⟨a3,0,none⟩]:List (Option Addr)).getD i none) i) ((fun i=>([64,G.length,d.length,(aT h 0 ((((h.length:Nat):Int) - 32).toNat)).length,([0#8,0#8,0#8,0#8,0#8,0#8,(BitVec.ofNat 8 ((124+d.length) / 2 ^ 8)),(BitVec.ofNat 8 (124+d.length))]:List af).length]:List Nat).getD i 0) i) ((fun i=>([64,ul,t,F,8]:List Nat).getD i 0) i))]) cV cW cU (by decide) (by decide) rr rr rr (av.keep ae.nil) fun Ii Ij Ik m1=>?_
         simp only [ao,List.cons_append,List.nil_append] at m1
         refine aw cS (cR (iG1:=iG1+11) l (iG2:=iG2+11) o (by exact ((x.bx 4 rr).aT (lo:=32) (hi:=64) z)) (by exact (bR.of 0 rr rr (fun i hi=>match i,hi with | 0,_=>⟨_,(bH (n:=64) (cc:=64) 10 rr (by omega) (by omega))⟩ | 1,_=>⟨_,(m0.bx 1 rr)⟩ | 2,_=>⟨_,(u.app [_,_,_,_,_,_,_,_,_,_,_])⟩ | 3,_=>⟨_,(A.app [_,_,_,_,_,_,_,_,_,_,_])⟩ | 4,_=>⟨_,(t9.bx 2 rr)⟩ | k+5,hk=>absurd hk (by omega)))) D m1) ?_
         rintro _ Il ⟨rfl,m2⟩
         refine ⟨_,rr,.inl ⟨ae.keep (by exact ae.nil) m2,?_⟩⟩
         refine aY (f':=fun q=>VU .u8 (j q)) m2 3 rr rr rr rr (fun _ _=>rr) dV rr fun Im m3=>?_
         simp only [ah,ai,aq,ar] at m3
         refine aa.nil ?_
         exact ⟨j,g,ls,(ab (ab (ab au))),bt 11 [3] m3⟩
     ·
      rintro up In ⟨d2,us,d3,ut,vs⟩
      subst us
      obtain ⟨up,rfl⟩:=ut.open
      replace g:=s3
      refine g5 _ _ ?_;clear g5
      refine ad fun _ m4=>?_
      refine bd a7 [1,3,5,7,9,11,13,15,17] ?_
      have eq:=vs.drew
      refine c8 (lo:=0) (hi:=32) (m:=32) (c:=32) (o':=0) gQ rr rr rr rr (by omega) (by omega) (by omega) (by omega) ?_
      refine jH eq (bH (n:=32) (cc:=32) 0 rr (by omega) (by omega)) cq cw gB rr rr fun Io Ip=>?_
      refine aE rr rr<|aj rr rr ?_
      obtain ⟨v0,g⟩:=g
      obtain ⟨v1,g⟩:=g
      refine e6 (lo:=(((h.length:Nat):Int) - 32).toNat) (hi:=h.length) cd b4 rr rr ⟨_,congrArg (Value.int .i64) (Int.toNat_of_nonneg v0).symm⟩ rr v1 fun Iq Ir v2=>?_
      refine jH eq (v2.app [_]) cq cw gB rr rr fun Iu m5=>?_
      replace m5:=rv [_] m5
      refine yL (v:=decide ((dl 32 g6)=(aT h ((((h.length:Nat):Int) - 32).toNat) h.length))) rr rr rr rr<|a8 rr rr<|a8 rr rr<|aa.fin m4 ?_;clear m4
      refine W.ret (aB ?_)
      have m6:=St.aF (C:= [_]) eq [] (by decide)
      simp only [pick,aL,aK,aM,aJ,ah,ai] at m6
      subst r
      refine ax.mk (.b2 rr (.b2 rr .nil)) ?_
      exact ⟨rr,m6⟩
set_option maxRecDepth 8000 in
set_option maxHeartbeats 16000000 in
theorem rq {B:Nat} {w0:aC} {w:World} {L:List Rg} {c f r:Int} (d:iq c f r) (h:St B w0 (L) w):
  Calls Tryz.prog 14 #[.int .i64 c,.int .i64 f] w fun e w'=>e= .returned (.int .i64 r)∧St B w0 (L) w':=by
 refine W.enter 14 Tryz.func14 rr rr rr ?_
 unfold iq at d
 refine ad fun _ i=>ag 1 1 ?_
 refine ak rr rr<|aa.fin i ?_;clear i
 refine ad fun _ j=>ad fun _ k=>?_
 refine ag 2 3 ?_
 refine aj rr rr<|aR (a:=(f:Int)) (b:=(1:Int)) (p:=f < 1) rr rr rr rr fE<|aa.fin k ?_;clear k
 by_cases g:f < 1
 ·
  replace d:=aA d g
  refine aG (congrArg Value.bool (decide_eq_true g)) ?_
  refine ad fun _ l=>ag 1 1 ?_
  refine ak rr rr<|aa.fin l ?_;clear l
  refine W.ret (a' (aB ?_))
  subst r
  refine ax.mk (.bj rr .nil) ?_
  exact ⟨rr,h⟩
 ·
  replace d:=az d g
  refine aO (congrArg Value.bool (decide_eq_false g)) ?_
  refine W.skip ?_
  refine j _ _ ?_;clear j
  refine ad fun _ m=>ag 8 255 ?_
  refine aj rr rr<|aj rr rr<|AP (a:=c) (b:=1) rr rr rr<|Gv (a:=(ec (c+1))) rr rr<|Az (a:=c) (b:=(ec (-(ec (c+1))))) rr rr rr<|aj rr rr ?_
  obtain ⟨n,d⟩:=d
  refine iP (a:=(max c (ec (-(ec (c+1)))))) (b:=f) rr rr rr n<|ak rr rr<|aa.fin m ?_;clear m
  refine W.ret (aB ?_)
  subst r
  refine ax.mk (.bj rr .nil) ?_
  exact ⟨rr,h⟩
end Go.Proofs.YtjclppnbbpnfnaaGreatDoor
