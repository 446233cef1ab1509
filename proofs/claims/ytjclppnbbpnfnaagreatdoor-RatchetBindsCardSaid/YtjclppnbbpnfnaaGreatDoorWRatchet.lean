/-
 WALKS of the package's functions, printed by this session's own program (auto.py).
-/
import Derived.Test.YtjclppnbbpnfnaaGreatDoorWF
import Derived.Test.YtjclppnbbpnfnaaGreatDoorProg
import Derived.Test.YtjclppnbbpnfnaaGreatDoorEd
import Derived.Test.YtjclppnbbpnfnaaGreatDoorRRatchet
import Derived.Test.YtjclppnbbpnfnaaGreatDoorEls
import Derived.Test.YtjclppnbbpnfnaaGreatDoorLay
import Derived.Test.YtjclppnbbpnfnaaGreatDoorWChain
import Derived.Test.YtjclppnbbpnfnaaGreatDoorWCmp
import Derived.Test.YtjclppnbbpnfnaaGreatDoorWCurve
import Derived.Test.YtjclppnbbpnfnaaGreatDoorWHeader
import Derived.Test.YtjclppnbbpnfnaaGreatDoorWSeal
import Derived.Test.YtjclppnbbpnfnaaGreatDoorWSlices
namespace Go.Proofs.YtjclppnbbpnfnaaGreatDoor
set_option linter.unusedSimpArgs false
set_option linter.unusedVariables false
set_option linter.unusedSectionVars false
set_option maxRecDepth 8000
set_option maxHeartbeats 1000000
open Go Go.LW
set_option maxRecDepth 8000 in
set_option maxHeartbeats 16000000 in
theorem CD {B:Nat} {w0:aC} {w:World} {L:List Rg} {iG1:Nat} (Q:gT L iG1 1 8 .u32 cH) {iG2:Nat} (R:gT L iG2 2 64 .u32 bE) {iG3:Nat} (S:gT L iG3 3 5 .u64 dn) {t c d g h i:K8} {r:(K8×K8×K8×K8×K8×K8×K8×U4×U4×U4×U4×U4×U4×K8×K8×U4×K8×Nat)} (f:p_ t c d g h i r) (T:St B w0 (L) w):
  Calls Tryz.prog 22 #[AG [p8 32 t],AG [p8 16 c],AG [p8 64 d],AG [p8 32 g,p8 32 h],AG [p8 32 i]] w fun e w'=>e= .returned (.tuple #[AG [p8 16 r.1,p8 32 r.2.1,p8 32 r.2.2.1,p8 32 r.2.2.2.1,p8 32 r.2.2.2.2.1,p8 32 r.2.2.2.2.2.1,p8 32 r.2.2.2.2.2.2.1,p4 r.2.2.2.2.2.2.2.1,p4 r.2.2.2.2.2.2.2.2.1,p4 r.2.2.2.2.2.2.2.2.2.1,p4 r.2.2.2.2.2.2.2.2.2.2.1,p4 r.2.2.2.2.2.2.2.2.2.2.2.1,p4 r.2.2.2.2.2.2.2.2.2.2.2.2.1,p8 32 r.2.2.2.2.2.2.2.2.2.2.2.2.2.1,p8 32 r.2.2.2.2.2.2.2.2.2.2.2.2.2.2.1,p4 r.2.2.2.2.2.2.2.2.2.2.2.2.2.2.2.1,p8 64 r.2.2.2.2.2.2.2.2.2.2.2.2.2.2.2.2.1],VN r.2.2.2.2.2.2.2.2.2.2.2.2.2.2.2.2.2])∧St B w0 (L) w':=by
 refine W.enter 40 Tryz.func22 rr rr rr ?_
 unfold p_ at f
 refine ad fun _ u=>ag 7 64 ?_
 refine bp T rr rr ae.nil fun am ap a0 v=>?_
 simp only [ao,Nat.zero_add,Nat.reduceAdd,ah,ai] at v
 refine bp v rr rr ae.nil fun a2 a3 a4 x=>?_
 simp only [ao,Nat.zero_add,Nat.reduceAdd,ah,ai] at x
 refine bp x rr rr ae.nil fun a5 a9 be y=>?_
 simp only [ao,Nat.zero_add,Nat.reduceAdd,ah,ai] at y
 refine bp y rr rr ae.nil fun bi bv cc z=>?_
 simp only [ao,Nat.zero_add,Nat.reduceAdd,ah,ai] at z
 refine bp z rr rr ae.nil fun cd ce ci A=>?_
 simp only [ao,Nat.zero_add,Nat.reduceAdd,ah,ai] at A
 refine aa.alloc A rr eu ae.nil fun cl co cs k=>?_
 simp only [ao,Nat.zero_add,Nat.reduceAdd,ah,ai] at k
 refine ak rr rr<|aa.fin u ?_;clear u
 refine ad fun _ D=>ag 10 631 ?_
 refine bm kW rr rr<|aP k 18 rr rr rr ba<|aP k 17 rr rr rr ba ?_
 obtain ⟨U,m,V,f⟩:=f
 refine aw tu (r7 (iG3:=iG3+23) S V k) ?_
 rintro _ c1 ⟨rfl,X⟩
 refine ⟨_,rr,.inr ⟨rr,?_⟩⟩
 refine bK rr rr<|b5 rr rr rr<|b' rr rr rr ?_
 refine aa.alloc X rr c4 ae.nil fun c2 dl ds E=>?_
 simp only [ao,Nat.zero_add,Nat.reduceAdd,ah,ai] at E
 refine aY (f':=fun q=>VU .u8 (U q)) E 0 rr rr rr rr (fun _ _=>rr) bP rr fun d0 j=>?_
 simp only [ah,ai,aq,ar] at j
 refine ak rr rr<|aa.fin D ?_;clear D
 refine ad fun _ F=>ad fun _ G=>?_
 refine ag 2 3 ?_
 refine aj rr rr<|aR (a:=(((m:Nat):Int):Int)) (b:=(0:Int)) (p:=m≠0) rr rr rr rr cm<|aa.fin G ?_;clear G
 by_cases l:m≠0
 ·
  replace f:=aA f l
  refine aG (congrArg Value.bool (decide_eq_true l)) ?_
  refine ad fun _ H=>ag 4 11 ?_
  refine fY mO eu rr<|aj rr rr ?_
  refine bA (ps:= [p8 16 (fun _=>0#8),p8 32 (fun _=>0#8),p8 32 (fun _=>0#8),p8 32 (fun _=>0#8),p8 32 (fun _=>0#8),p8 32 (fun _=>0#8),p8 32 (fun _=>0#8),p4 (0#32),p4 (0#32),p4 (0#32),p4 (0#32),p4 (0#32),p4 (0#32),p8 32 (fun _=>0#8),p8 32 (fun _=>0#8),p4 (0#32),p8 64 (fun _=>0#8)]) j rr rr rr (cj.run 1) ⟨fun _ _=>rr,fun _ _=>rr,fun _ _=>rr,fun _ _=>rr,fun _ _=>rr,fun _ _=>rr,fun _ _=>rr,fun _ _=>rr,fun _ _=>rr,fun _ _=>rr,fun _ _=>rr,fun _ _=>rr,fun _ _=>rr,fun _ _=>rr,fun _ _=>rr,fun _ _=>rr,fun _ _=>rr,trivial⟩ (by kernel_rfl) (av.keep ae.nil) fun d1 n=>?_
  simp only [ao,List.take_succ_cons,List.take_zero,List.drop_succ_cons,List.drop_zero,List.length_cons,List.length_nil,Nat.zero_add,Nat.reduceAdd,List.cons_append,List.nil_append] at n
  refine ak rr rr<|aa.fin H ?_;clear H
  refine W.ret (a' (aB ?_))
  have h26:=St.aF (C:= [_,_,_,_,_,_,_,_,_,_,_,_,_,_,_,_,_,_,_,_,_,_,_,_]) n [] (by decide)
  simp only [pick,aL,aK,aM,aJ,ah,ai] at h26
  subst r
  refine ax.mk (.agg n rr (.cons 1 rr (.cons 2 rr (.cons 3 rr (.cons 4 rr (.cons 5 rr (.cons 6 rr (.cons 7 rr (.cons 8 rr (.cons 9 rr (.cons 10 rr (.cons 11 rr (.cons 12 rr (.cons 13 rr (.cons 14 rr (.cons 15 rr (.cons 16 rr (.cons 17 rr .nil))))))))))))))))) (by kernel_rfl) (.bj rr .nil)) ?_
  exact ⟨rr,h26⟩
 ·
  replace f:=az f l
  refine aO (congrArg Value.bool (decide_eq_false l)) ?_
  refine W.skip ?_
  refine F _ _ ?_;clear F
  refine ad fun _ I=>ag 7 31 ?_
  refine aP j 22 rr rr rr hJ<|aP j 21 rr rr rr td<|bO j rr rr (.cons 19 rr (.cons 20 rr .nil)) iV<|aP j 18 rr rr rr ba ?_
  refine dt (ps:= [p8 16 c,p8 32 (fun _=>0#8),p8 32 g,p8 32 h,p8 32 i,p8 32 (fun _=>0#8),p8 32 (fun _=>0#8),p4 (1#32),p4 (0#32),p4 (0#32),p4 (0#32),p4 (0#32),p4 (0#32),p8 32 (fun _=>0#8),p8 32 (fun _=>0#8),p4 (0#32),p8 64 d]) vl (by decide) eu rr rr (.agg [] [p8 16 (fun _=>0#8)] [p8 32 (fun _=>0#8),p8 32 (fun _=>0#8),p8 32 (fun _=>0#8),p8 32 (fun _=>0#8),p8 32 (fun _=>0#8),p8 32 (fun _=>0#8),p4 (0#32),p4 (0#32),p4 (0#32),p4 (0#32),p4 (0#32),p4 (0#32),p8 32 (fun _=>0#8),p8 32 (fun _=>0#8),p4 (0#32),p8 64 (fun _=>0#8)] [p8 16 c] (by kernel_rfl) (by kernel_rfl) (.agg [p8 16 c,p8 32 (fun _=>0#8),p8 32 (fun _=>0#8),p8 32 (fun _=>0#8),p8 32 (fun _=>0#8),p8 32 (fun _=>0#8),p8 32 (fun _=>0#8),p4 (0#32),p4 (0#32),p4 (0#32),p4 (0#32),p4 (0#32),p4 (0#32),p8 32 (fun _=>0#8),p8 32 (fun _=>0#8),p4 (0#32)] [p8 64 (fun _=>0#8)] [] [p8 64 d] (by kernel_rfl) (by kernel_rfl) (.agg [p8 16 c,p8 32 (fun _=>0#8)] [p8 32 (fun _=>0#8),p8 32 (fun _=>0#8)] [p8 32 (fun _=>0#8),p8 32 (fun _=>0#8),p8 32 (fun _=>0#8),p4 (0#32),p4 (0#32),p4 (0#32),p4 (0#32),p4 (0#32),p4 (0#32),p8 32 (fun _=>0#8),p8 32 (fun _=>0#8),p4 (0#32),p8 64 d] [p8 32 g,p8 32 h] (by kernel_rfl) (by kernel_rfl) (.agg [p8 16 c,p8 32 (fun _=>0#8),p8 32 g,p8 32 h] [p8 32 (fun _=>0#8)] [p8 32 (fun _=>0#8),p8 32 (fun _=>0#8),p4 (0#32),p4 (0#32),p4 (0#32),p4 (0#32),p4 (0#32),p4 (0#32),p8 32 (fun _=>0#8),p8 32 (fun _=>0#8),p4 (0#32),p8 64 d] [p8 32 i] (by kernel_rfl) (by kernel_rfl) (.one [p8 16 c,p8 32 (fun _=>0#8),p8 32 g,p8 32 h,p8 32 i,p8 32 (fun _=>0#8),p8 32 (fun _=>0#8)] [p4 (0#32),p4 (0#32),p4 (0#32),p4 (0#32),p4 (0#32),p8 32 (fun _=>0#8),p8 32 (fun _=>0#8),p4 (0#32),p8 64 d] (fun _=>VU .u32 (0#32)) (by kernel_rfl) rr .nil))))) ?_
  refine aa.alloc j rr eu (ae.cons 18 rr (ae.parts (.cons 19 rr (.cons 20 rr .nil)) (ae.cons 21 rr (ae.cons 22 rr ae.nil)))) fun d2 d3 d4 h28=>?_
  simp only [ao,Nat.zero_add,Nat.reduceAdd,ah,ai] at h28
  refine bA (ps:= [p8 16 c,p8 32 (fun _=>0#8),p8 32 g,p8 32 h,p8 32 i,p8 32 (fun _=>0#8),p8 32 (fun _=>0#8),p4 (1#32),p4 (0#32),p4 (0#32),p4 (0#32),p4 (0#32),p4 (0#32),p8 32 (fun _=>0#8),p8 32 (fun _=>0#8),p4 (0#32),p8 64 d]) h28 rr rr rr (cj.run 0) ⟨fun _ _=>rr,fun _ _=>rr,fun _ _=>rr,fun _ _=>rr,fun _ _=>rr,fun _ _=>rr,fun _ _=>rr,fun _ _=>rr,fun _ _=>rr,fun _ _=>rr,fun _ _=>rr,fun _ _=>rr,fun _ _=>rr,fun _ _=>rr,fun _ _=>rr,fun _ _=>rr,fun _ _=>rr,trivial⟩ (by kernel_rfl) (av.wait rr) fun d5 h29=>?_
  simp only [ao,List.take_succ_cons,List.take_zero,List.drop_succ_cons,List.drop_zero,List.length_cons,List.length_nil,Nat.zero_add,Nat.reduceAdd,List.cons_append,List.nil_append] at h29
  refine aa.fin I ?_;clear I
  refine ad fun _ J=>ag 10 379 ?_
  refine aP h29 40 rr rr rr ba<|aP h29 17 rr rr rr ba ?_
  obtain ⟨K,M,Y,f⟩:=f
  refine aw sI (sK (iG1:=iG1+41) Q (iG2:=iG2+41) R Y h29) ?_
  rintro _ d6 ⟨rfl,Z⟩
  refine ⟨_,rr,.inr ⟨rr,?_⟩⟩
  refine bK rr rr<|b5 rr rr rr<|b5 rr rr rr<|aa.fieldAddr 16 l5 rr rr ?_
  refine aY (f':=fun q=>VU .u8 (K q)) Z 1 rr rr rr rr (fun _ _=>rr) bP rr fun d7 N=>?_
  simp only [ah,ai,aq,ar] at N
  refine aa.fieldAddr 144 mc rr rr ?_
  refine aY (f':=fun q=>VU .u8 (M q)) N 5 rr rr rr rr (fun _ _=>rr) bP rr fun d8 o=>?_
  simp only [ah,ai,aq,ar] at o
  refine aa.fin J ?_;clear J
  refine ad fun _ O=>ag 3 5 ?_
  refine bO o rr rr (.cons 0 rr (.cons 1 rr (.cons 2 rr (.cons 3 rr (.cons 4 rr (.cons 5 rr (.cons 6 rr (.cons 7 rr (.cons 8 rr (.cons 9 rr (.cons 10 rr (.cons 11 rr (.cons 12 rr (.cons 13 rr (.cons 14 rr (.cons 15 rr (.cons 16 rr .nil))))))))))))))))) (by kernel_rfl) ?_
  refine bA (ps:= [p8 16 c,p8 32 K,p8 32 g,p8 32 h,p8 32 i,p8 32 M,p8 32 (fun _=>0#8),p4 (1#32),p4 (0#32),p4 (0#32),p4 (0#32),p4 (0#32),p4 (0#32),p8 32 (fun _=>0#8),p8 32 (fun _=>0#8),p4 (0#32),p8 64 d]) o rr rr rr (cj.run 18) ⟨fun _ _=>rr,fun _ _=>rr,fun _ _=>rr,fun _ _=>rr,fun _ _=>rr,fun _ _=>rr,fun _ _=>rr,fun _ _=>rr,fun _ _=>rr,fun _ _=>rr,fun _ _=>rr,fun _ _=>rr,fun _ _=>rr,fun _ _=>rr,fun _ _=>rr,fun _ _=>rr,fun _ _=>rr,trivial⟩ (by kernel_rfl) (av.wait rr) fun d9 s=>?_
  simp only [ao,List.take_succ_cons,List.take_zero,List.drop_succ_cons,List.drop_zero,List.length_cons,List.length_nil,Nat.zero_add,Nat.reduceAdd,List.cons_append,List.nil_append] at s
  refine ak rr rr<|aa.fin O ?_;clear O
  refine W.ret (aB ?_)
  have P:=St.aF (C:= [_,_,_,_,_,_,_,_,_,_,_,_,_,_,_,_,_,_,_,_,_,_,_,_,_,_,_,_,_,_,_,_,_,_,_,_,_,_,_,_,_]) s [] (by decide)
  simp only [pick,aL,aK,aM,aJ,ah,ai] at P
  subst r
  refine ax.mk (.agg s rr (.cons 18 rr (.cons 19 rr (.cons 20 rr (.cons 21 rr (.cons 22 rr (.cons 23 rr (.cons 24 rr (.cons 25 rr (.cons 26 rr (.cons 27 rr (.cons 28 rr (.cons 29 rr (.cons 30 rr (.cons 31 rr (.cons 32 rr (.cons 33 rr (.cons 34 rr .nil))))))))))))))))) (by kernel_rfl) (.bj rr .nil)) ?_
  exact ⟨rr,P⟩
set_option maxRecDepth 8000 in
set_option maxHeartbeats 16000000 in
theorem E4 {B:Nat} {w0:aC} {w:World} {L:List Rg} {g a b c d:K8} {r:(K8×K8×K8×K8×K8×K8×K8×U4×U4×U4×U4×U4×U4×K8×K8×U4×K8)} (p:sc g a b c d r) (q:St B w0 (L) w):
  Calls Tryz.prog 24 #[AG [p8 32 g],AG [p8 16 a],AG [p8 64 b],AG [p8 32 c,p8 32 d]] w fun e w'=>e= .returned (AG [p8 16 r.1,p8 32 r.2.1,p8 32 r.2.2.1,p8 32 r.2.2.2.1,p8 32 r.2.2.2.2.1,p8 32 r.2.2.2.2.2.1,p8 32 r.2.2.2.2.2.2.1,p4 r.2.2.2.2.2.2.2.1,p4 r.2.2.2.2.2.2.2.2.1,p4 r.2.2.2.2.2.2.2.2.2.1,p4 r.2.2.2.2.2.2.2.2.2.2.1,p4 r.2.2.2.2.2.2.2.2.2.2.2.1,p4 r.2.2.2.2.2.2.2.2.2.2.2.2.1,p8 32 r.2.2.2.2.2.2.2.2.2.2.2.2.2.1,p8 32 r.2.2.2.2.2.2.2.2.2.2.2.2.2.2.1,p4 r.2.2.2.2.2.2.2.2.2.2.2.2.2.2.2.1,p8 64 r.2.2.2.2.2.2.2.2.2.2.2.2.2.2.2.2])∧St B w0 (L) w':=by
 refine W.enter 14 Tryz.func24 rr rr rr ?_
 unfold sc at p
 refine ad fun _ i=>ag 5 0 ?_
 refine bp q rr rr ae.nil fun s t u j=>?_
 simp only [ao,Nat.zero_add,Nat.reduceAdd,ah,ai] at j
 refine bp j rr rr ae.nil fun v x y k=>?_
 simp only [ao,Nat.zero_add,Nat.reduceAdd,ah,ai] at k
 refine bp k rr rr ae.nil fun z A D l=>?_
 simp only [ao,Nat.zero_add,Nat.reduceAdd,ah,ai] at l
 refine bp l rr rr ae.nil fun E F G m=>?_
 simp only [ao,Nat.zero_add,Nat.reduceAdd,ah,ai] at m
 refine aa.alloc m rr eu ae.nil fun H I J f=>?_
 simp only [ao,Nat.zero_add,Nat.reduceAdd,ah,ai] at f
 refine aa.fin i ?_;clear i
 refine ad fun _ n=>ag 6 31 ?_
 refine aP f 20 rr rr rr hJ<|aP f 19 rr rr rr td<|bO f rr rr (.cons 17 rr (.cons 18 rr .nil)) iV<|aP f 21 rr rr rr ba ?_
 refine dt (ps:= [p8 16 a,p8 32 g,p8 32 c,p8 32 d,p8 32 (fun _=>0#8),p8 32 (fun _=>0#8),p8 32 (fun _=>0#8),p4 (0#32),p4 (0#32),p4 (0#32),p4 (0#32),p4 (0#32),p4 (0#32),p8 32 (fun _=>0#8),p8 32 (fun _=>0#8),p4 (0#32),p8 64 b]) vl (by decide) eu rr rr (.agg [] [p8 16 (fun _=>0#8)] [p8 32 (fun _=>0#8),p8 32 (fun _=>0#8),p8 32 (fun _=>0#8),p8 32 (fun _=>0#8),p8 32 (fun _=>0#8),p8 32 (fun _=>0#8),p4 (0#32),p4 (0#32),p4 (0#32),p4 (0#32),p4 (0#32),p4 (0#32),p8 32 (fun _=>0#8),p8 32 (fun _=>0#8),p4 (0#32),p8 64 (fun _=>0#8)] [p8 16 a] (by kernel_rfl) (by kernel_rfl) (.agg [p8 16 a,p8 32 (fun _=>0#8),p8 32 (fun _=>0#8),p8 32 (fun _=>0#8),p8 32 (fun _=>0#8),p8 32 (fun _=>0#8),p8 32 (fun _=>0#8),p4 (0#32),p4 (0#32),p4 (0#32),p4 (0#32),p4 (0#32),p4 (0#32),p8 32 (fun _=>0#8),p8 32 (fun _=>0#8),p4 (0#32)] [p8 64 (fun _=>0#8)] [] [p8 64 b] (by kernel_rfl) (by kernel_rfl) (.agg [p8 16 a,p8 32 (fun _=>0#8)] [p8 32 (fun _=>0#8),p8 32 (fun _=>0#8)] [p8 32 (fun _=>0#8),p8 32 (fun _=>0#8),p8 32 (fun _=>0#8),p4 (0#32),p4 (0#32),p4 (0#32),p4 (0#32),p4 (0#32),p4 (0#32),p8 32 (fun _=>0#8),p8 32 (fun _=>0#8),p4 (0#32),p8 64 b] [p8 32 c,p8 32 d] (by kernel_rfl) (by kernel_rfl) (.agg [p8 16 a] [p8 32 (fun _=>0#8)] [p8 32 c,p8 32 d,p8 32 (fun _=>0#8),p8 32 (fun _=>0#8),p8 32 (fun _=>0#8),p4 (0#32),p4 (0#32),p4 (0#32),p4 (0#32),p4 (0#32),p4 (0#32),p8 32 (fun _=>0#8),p8 32 (fun _=>0#8),p4 (0#32),p8 64 b] [p8 32 g] (by kernel_rfl) (by kernel_rfl) .nil)))) ?_
 refine bA (ps:= [p8 16 a,p8 32 g,p8 32 c,p8 32 d,p8 32 (fun _=>0#8),p8 32 (fun _=>0#8),p8 32 (fun _=>0#8),p4 (0#32),p4 (0#32),p4 (0#32),p4 (0#32),p4 (0#32),p4 (0#32),p8 32 (fun _=>0#8),p8 32 (fun _=>0#8),p4 (0#32),p8 64 b]) f rr rr rr (cj.run 0) ⟨fun _ _=>rr,fun _ _=>rr,fun _ _=>rr,fun _ _=>rr,fun _ _=>rr,fun _ _=>rr,fun _ _=>rr,fun _ _=>rr,fun _ _=>rr,fun _ _=>rr,fun _ _=>rr,fun _ _=>rr,fun _ _=>rr,fun _ _=>rr,fun _ _=>rr,fun _ _=>rr,fun _ _=>rr,trivial⟩ (by kernel_rfl) (av.wait rr) fun K h=>?_
 simp only [ao,List.take_succ_cons,List.take_zero,List.drop_succ_cons,List.drop_zero,List.length_cons,List.length_nil,Nat.zero_add,Nat.reduceAdd,List.cons_append,List.nil_append] at h
 refine aa.fin n ?_;clear n
 refine W.ret (aB ?_)
 have o:=St.aF (C:= [_,_,_,_,_,_,_,_,_,_,_,_,_,_,_,_,_,_,_,_,_,_]) h [] (by decide)
 simp only [pick,aL,aK,aM,aJ,ah,ai] at o
 subst r
 refine ax.mk (.agg h rr (.cons 0 rr (.cons 1 rr (.cons 2 rr (.cons 3 rr (.cons 4 rr (.cons 5 rr (.cons 6 rr (.cons 7 rr (.cons 8 rr (.cons 9 rr (.cons 10 rr (.cons 11 rr (.cons 12 rr (.cons 13 rr (.cons 14 rr (.cons 15 rr (.cons 16 rr .nil))))))))))))))))) (by kernel_rfl) .nil) ?_
 exact ⟨rr,o⟩
set_option maxRecDepth 8000 in
set_option maxHeartbeats 16000000 in
theorem sy {B:Nat} {w0:aC} {w:World} {L:List Rg} {h j l o p q s:K8} {t u v x y z:U4} {A D:K8} {E:U4} {F G:K8} {H:U4} {I:K8} {J K:U4} {b:List af} {d:Option Addr} {M f ap:Nat} (N:Bx L ap d M f b) {r:(List af)} (a:kP h j l o p q s t u v x y z A D E F G H I J K b r) (a0:St B w0 (L) w):
  Calls Tryz.prog 40 #[AG [p8 16 h,p8 32 j,p8 32 l,p8 32 o,p8 32 p,p8 32 q,p8 32 s,p4 t,p4 u,p4 v,p4 x,p4 y,p4 z,p8 32 A,p8 32 D,p4 E,p8 64 F],AG [p8 16 G,p4 H,p8 32 I,p4 J,p4 K],.slice d M f] w fun e w'=>∃O:Option Addr,∃P:Option Nat,∃Q g:Nat,∃R:Nat→af,e= .returned (.slice O Q g)∧St B w0 (gO P g R::L) w'∧Ow O P Q g R r:=by
 refine W.enter 14 Tryz.func40 rr rr rr ?_
 unfold kP at a
 have a2:=N.hl;subst a2
 refine ad fun _ S=>ag 3 4 ?_
 refine bp a0 rr rr ae.nil fun a3 cs c1 T=>?_
 simp only [ao,Nat.zero_add,Nat.reduceAdd,ah,ai] at T
 refine bp T rr rr ae.nil fun c2 dl ds h26=>?_
 simp only [ao,Nat.zero_add,Nat.reduceAdd,ah,ai] at h26
 refine aV rr rr<|aa.fin S ?_;clear S
 refine ad fun _ U=>?_
 refine bd a7 [1,3,5,9,6,10,12,15] ?_
 have h28:=h26.drew
 refine aa.fieldAddr 279 FV rr rr<|c8 (lo:=0) (hi:=64) (m:=64) (c:=64) (o':=279) dX rr rr rr rr (by omega) (by omega) (by omega) (by omega)<|bO h28 rr rr (.cons 0 rr (.cons 1 rr (.cons 2 rr (.cons 3 rr (.cons 4 rr .nil))))) ei<|aE rr rr ?_
 obtain ⟨a4,a5,a⟩:=a
 refine aw kV (lk a5 h28) ?_
 rintro _ d0 ⟨a9,d1,d2,be,d3,rfl,bi,V⟩
 obtain rfl:=V.hl
 refine ⟨_,rr,.inr ⟨rr,?_⟩⟩
 refine aa.buildSlice bi (ps:= [(3,fun i=> .slice ((fun i=>([some ⟨a3,279,none⟩,a9,d]:List (Option Addr)).getD i none) i) ((fun i=>([64,a4.length,b.length]:List Nat).getD i 0) i) ((fun i=>([64,be,f]:List Nat).getD i 0) i))]) cV cW cU (by decide) (by decide) rr rr rr (av.keep ae.nil) fun d4 d5 d6 X=>?_
 simp only [ao,List.cons_append,List.nil_append] at X
 obtain ⟨bv,cd,a⟩:=a
 refine aw AB (Bh (by exact (bR.of 0 rr rr (fun i hi=>match i,hi with | 0,_=>⟨_,(bH (n:=64) (cc:=64) 23 rr (by omega) (by omega))⟩ | 1,_=>⟨_,(V.bx 1 rr)⟩ | 2,_=>⟨_,(N.app [_,_,_,_,_,_,_,_,_,_,_,_,_,_,_,_,_,_,_,_,_,_,_,_])⟩ | k+3,hk=>absurd hk (by omega)))) cd X) ?_
 rintro _ d7 ⟨ce,ci,d8,cl,co,rfl,Y,Z⟩
 obtain rfl:=Z.hl
 refine ⟨_,rr,.inl ⟨ae.keep (by exact ae.nil) Y,?_⟩⟩
 refine aV rr rr<|aa.fin U ?_;clear U
 refine W.ret (aB ?_)
 have am:=St.aF (C:= [_,_,_,_,_,_,_,_,_,_,_,_,_,_,_,_,_,_,_,_,_,_,_,_,_]) Y [0] (by decide)
 simp only [pick,aL,aK,aM,aJ,ah,ai] at am
 subst r
 refine ax.mk (.bD rr .nil) ?_
 exact ⟨ce,ci,bv.length,cl,co,rr,am,Z⟩
set_option maxRecDepth 8000 in
set_option maxHeartbeats 16000000 in
theorem vo {B:Nat} {w0:aC} {w:World} {L:List Rg} {iG1:Nat} (co:gT L iG1 1 8 .u32 cH) {iG2:Nat} (cs:gT L iG2 2 64 .u32 bE) {h v x k y J z:K8} {g A i D l m:U4} {E F:K8} {G:U4} {H:K8} {n:U4} {o:List af} {K:Option Addr} {c1 M g9:Nat} (c2:Bx L g9 K c1 M o) {t:List af} {N:Option Addr} {dl O he:Nat} (ds:Bx L he N dl O t) {r:(K8×K8×K8×K8×K8×K8×K8×U4×U4×U4×U4×U4×U4×K8×K8×U4×K8×K8×U4×K8×U4×U4×(List af)×Nat)} (c:mi h v x k y J z g A i D l m E F G H n o t r) (hi:St B w0 (L) w):
  Calls Tryz.prog 21 #[AG [p8 16 h,p8 32 v,p8 32 x,p8 32 k,p8 32 y,p8 32 J,p8 32 z,p4 g,p4 A,p4 i,p4 D,p4 l,p4 m,p8 32 E,p8 32 F,p4 G,p8 64 H],VU .u32 n,.slice K c1 M,.slice N dl O] w fun e w'=>∃d0:Option Addr,∃d1:Option Nat,∃d2 a3:Nat,∃d3:Nat→af,e= .returned (.tuple #[AG [p8 16 r.1,p8 32 r.2.1,p8 32 r.2.2.1,p8 32 r.2.2.2.1,p8 32 r.2.2.2.2.1,p8 32 r.2.2.2.2.2.1,p8 32 r.2.2.2.2.2.2.1,p4 r.2.2.2.2.2.2.2.1,p4 r.2.2.2.2.2.2.2.2.1,p4 r.2.2.2.2.2.2.2.2.2.1,p4 r.2.2.2.2.2.2.2.2.2.2.1,p4 r.2.2.2.2.2.2.2.2.2.2.2.1,p4 r.2.2.2.2.2.2.2.2.2.2.2.2.1,p8 32 r.2.2.2.2.2.2.2.2.2.2.2.2.2.1,p8 32 r.2.2.2.2.2.2.2.2.2.2.2.2.2.2.1,p4 r.2.2.2.2.2.2.2.2.2.2.2.2.2.2.2.1,p8 64 r.2.2.2.2.2.2.2.2.2.2.2.2.2.2.2.2.1],AG [p8 16 r.2.2.2.2.2.2.2.2.2.2.2.2.2.2.2.2.2.1,p4 r.2.2.2.2.2.2.2.2.2.2.2.2.2.2.2.2.2.2.1,p8 32 r.2.2.2.2.2.2.2.2.2.2.2.2.2.2.2.2.2.2.2.1,p4 r.2.2.2.2.2.2.2.2.2.2.2.2.2.2.2.2.2.2.2.2.1,p4 r.2.2.2.2.2.2.2.2.2.2.2.2.2.2.2.2.2.2.2.2.2.1],.slice d0 d2 a3,VN r.2.2.2.2.2.2.2.2.2.2.2.2.2.2.2.2.2.2.2.2.2.2.2])∧St B w0 (gO d1 a3 d3::L) w'∧Ow d0 d1 d2 a3 d3 r.2.2.2.2.2.2.2.2.2.2.2.2.2.2.2.2.2.2.2.2.2.2.1:=by
 refine W.enter 89 Tryz.func21 rr rr rr ?_
 unfold mi at c
 have hk:=c2.hl;subst hk
 have hm:=ds.hl;subst hm
 refine ad fun _ d4=>ag 5 24 ?_
 refine bp hi rr rr ae.nil fun d jp kk d5=>?_
 simp only [ao,Nat.zero_add,Nat.reduceAdd,ah,ai] at d5
 refine aa.alloc d5 rr eu ae.nil fun f kw lc d6=>?_
 simp only [ao,Nat.zero_add,Nat.reduceAdd,ah,ai] at d6
 refine aa.alloc d6 rr ik ae.nil fun j ld le a4=>?_
 simp only [ao,Nat.zero_add,Nat.reduceAdd,ah,ai] at a4
 refine aV rr rr<|ak rr rr<|aa.fin d4 ?_;clear d4
 refine ad fun _ d7=>ag 1 1 ?_
 refine ak rr rr<|aa.fin d7 ?_;clear d7
 refine ad fun _ d8=>?_
 obtain ⟨P,hu,hw⟩:=c
 refine bq (fun e w=>∃a5:Nat,(P=a5)∧aU e [(2,.slice K o.length M),(3,.slice N t.length O),(4,pt d 0),(8,pt f 0),(9,pt j 0),(12,VN a5)]∧St B w0 (g8 j 0 16 (fun _=>0#8)::g4 j 16 (0#32)::g8 j 17 32 (fun _=>0#8)::g4 j 49 (0#32)::g4 j 50 (0#32)::g8 f 0 16 (fun _=>0#8)::g8 f 16 32 (fun _=>0#8)::g8 f 48 32 (fun _=>0#8)::g8 f 80 32 (fun _=>0#8)::g8 f 112 32 (fun _=>0#8)::g8 f 144 32 (fun _=>0#8)::g8 f 176 32 (fun _=>0#8)::g4 f 208 (0#32)::g4 f 209 (0#32)::g4 f 210 (0#32)::g4 f 211 (0#32)::g4 f 212 (0#32)::g4 f 213 (0#32)::g8 f 214 32 (fun _=>0#8)::g8 f 246 32 (fun _=>0#8)::g4 f 278 (0#32)::g8 f 279 64 (fun _=>0#8)::g8 d 0 16 h::g8 d 16 32 v::g8 d 48 32 x::g8 d 80 32 k::g8 d 112 32 y::g8 d 144 32 J::g8 d 176 32 z::g4 d 208 g::g4 d 209 A::g4 d 210 i::g4 d 211 D::g4 d 212 l::g4 d 213 m::g8 d 214 32 E::g8 d 246 32 F::g4 d 278 G::g8 d 279 64 H::L) w) ?_ ?_
 ·
  replace c:=hu
  refine W.block ?_
  refine ad fun _ d9=>?_
  obtain ⟨t47,hH,hO⟩:=c
  refine bq (fun e w=>∃a9:Bool,(t47=a9)∧aU e [(1,VU .u32 n),(2,.slice K o.length M),(3,.slice N t.length O),(4,pt d 0),(8,pt f 0),(9,pt j 0),(12,VN 0),(17,.bool a9)]∧St B w0 (g8 j 0 16 (fun _=>0#8)::g4 j 16 (0#32)::g8 j 17 32 (fun _=>0#8)::g4 j 49 (0#32)::g4 j 50 (0#32)::g8 f 0 16 (fun _=>0#8)::g8 f 16 32 (fun _=>0#8)::g8 f 48 32 (fun _=>0#8)::g8 f 80 32 (fun _=>0#8)::g8 f 112 32 (fun _=>0#8)::g8 f 144 32 (fun _=>0#8)::g8 f 176 32 (fun _=>0#8)::g4 f 208 (0#32)::g4 f 209 (0#32)::g4 f 210 (0#32)::g4 f 211 (0#32)::g4 f 212 (0#32)::g4 f 213 (0#32)::g8 f 214 32 (fun _=>0#8)::g8 f 246 32 (fun _=>0#8)::g4 f 278 (0#32)::g8 f 279 64 (fun _=>0#8)::g8 d 0 16 h::g8 d 16 32 v::g8 d 48 32 x::g8 d 80 32 k::g8 d 112 32 y::g8 d 144 32 J::g8 d 176 32 z::g4 d 208 g::g4 d 209 A::g4 d 210 i::g4 d 211 D::g4 d 212 l::g4 d 213 m::g8 d 214 32 E::g8 d 246 32 F::g4 d 278 G::g8 d 279 64 H::L) w) ?_ ?_
  ·
   replace c:=hH
   refine ad fun _ el=>ag 4 15 ?_
   refine aE rr rr<|aa.len cB rr rr<|aR (a:=(((o.length:Nat):Int):Int)) (b:=(512:Int)) (p:=512 < o.length) rr rr rr rr dL<|a8 rr rr<|aa.fin el ?_;clear el
   by_cases Q:512 < o.length
   ·
    replace c:=aA c Q
    refine aG (congrArg Value.bool (decide_eq_true Q)) ?_
    refine W.skip ?_
    exact ⟨(decide (512 < o.length)),c,(ab (ab (ab (ab (ab (ab (ab (ab au)))))))),a4⟩
   ·
    replace c:=az c Q
    refine aO (congrArg Value.bool (decide_eq_false Q)) ?_
    refine ag 4 15 ?_
    refine aE rr rr<|aa.len cB rr rr<|aR (a:=(((t.length:Nat):Int):Int)) (b:=(64:Int)) (p:=64 < t.length) rr rr rr rr dL<|a8 rr rr<|aa.nil ?_
    exact ⟨(decide (64 < t.length)),c,(ab (ab (ab (ab (ab (ab (ab (ab au)))))))),a4⟩
  ·
   rintro h1 li ⟨a9,id,ii,s⟩
   subst id
   obtain ⟨h1,rfl⟩:=ii.open
   replace c:=hO
   refine d9 _ _ ?_;clear d9
   by_cases R:t47=true
   ·
    replace c:=aA c R
    refine aG (congrArg Value.bool R) ?_
    refine ag 1 1 ?_
    refine ak rr rr<|aa.nil ?_
    refine bo ?_
    exact ⟨5,c,(ab (ab (ab (ab (ab (ab au)))))),s⟩
   ·
    replace c:=az c R
    refine aO (congrArg Value.bool (Bool.eq_false_iff.2 R)) ?_
    refine ad fun _ em=>ag 4 15 ?_
    refine aa.fieldAddr 208 gz rr rr<|aX s 29 rr rr rr (by omega) bf<|aR (a:=(g.toNat:Int)) (b:=((0#32).toNat:Int)) (p:=g=0#32) rr rr rr rr ih<|a8 rr rr<|aa.fin em ?_;clear em
    by_cases S:g=0#32
    ·
     replace c:=aA c S
     refine aG (congrArg Value.bool (decide_eq_true S)) ?_
     refine ag 1 1 ?_
     refine ak rr rr<|aa.nil ?_
     refine bo ?_
     exact ⟨165,c,(ab (ab (ab (ab (ab (ab au)))))),s⟩
    ·
     replace c:=az c S
     refine aO (congrArg Value.bool (decide_eq_false S)) ?_
     refine ad fun _ T=>ad fun _ eq=>?_
     refine ag 5 31 ?_
     refine aa.fieldAddr 210 gR rr rr<|aX s 31 rr rr rr (by omega) bf<|aj rr rr<|aR (a:=(i.toNat:Int)) (b:=(n.toNat:Int)) (p:=n.toNat≤i.toNat) rr rr rr rr jc<|a8 rr rr<|aa.fin eq ?_;clear eq
     by_cases I:n.toNat≤i.toNat
     ·
      replace c:=aA c I
      refine aG (congrArg Value.bool (decide_eq_true I)) ?_
      refine W.skip ?_
      refine T _ _ ?_;clear T
      refine aG (congrArg Value.bool (decide_eq_true I)) ?_
      refine ag 1 1 ?_
      refine ak rr rr<|aa.nil ?_
      refine bo ?_
      exact ⟨130,c,(ab (ab (ab (ab (ab (ab au)))))),s⟩
     ·
      replace c:=az c I
      refine aO (congrArg Value.bool (decide_eq_false I)) ?_
      refine ag 5 31 ?_
      refine aa.fieldAddr 213 sa rr rr<|aX s 34 rr rr rr (by omega) bf<|aj rr rr<|aR (a:=(m.toNat:Int)) (b:=(n.toNat:Int)) (p:=n.toNat≤m.toNat) rr rr rr rr jc<|a8 rr rr<|aa.fin T ?_;clear T
      by_cases U:n.toNat≤m.toNat
      ·
       replace c:=aA c U
       refine aG (congrArg Value.bool (decide_eq_true U)) ?_
       refine ag 1 1 ?_
       refine ak rr rr<|aa.nil ?_
       refine bo ?_
       exact ⟨130,c,(ab (ab (ab (ab (ab (ab au)))))),s⟩
      ·
       replace c:=az c U
       refine aO (congrArg Value.bool (decide_eq_false U)) ?_
       refine W.skip ?_
       refine bo ?_
       exact ⟨0,c,(ab (ab (ab (ab (ab (ab au)))))),s⟩
 ·
  rintro io lm ⟨a5,ip,is,u⟩
  subst ip
  obtain ⟨io,rfl⟩:=is.open
  replace c:=hw
  refine d8 _ _ ?_;clear d8
  refine ad fun _ es=>ad fun _ ex=>?_
  refine ag 2 3 ?_
  refine aj rr rr<|aR (a:=(((P:Nat):Int):Int)) (b:=(0:Int)) (p:=P≠0) rr rr rr rr cm<|aa.fin ex ?_;clear ex
  by_cases V:P≠0
  ·
   replace c:=aA c V
   refine aG (congrArg Value.bool (decide_eq_true V)) ?_
   refine ad fun _ fd=>ag 7 103 ?_
   refine fY mO eu rr<|fY yR ik rr<|aj rr rr ?_
   refine bA (ps:= [p8 16 (fun _=>0#8),p8 32 (fun _=>0#8),p8 32 (fun _=>0#8),p8 32 (fun _=>0#8),p8 32 (fun _=>0#8),p8 32 (fun _=>0#8),p8 32 (fun _=>0#8),p4 (0#32),p4 (0#32),p4 (0#32),p4 (0#32),p4 (0#32),p4 (0#32),p8 32 (fun _=>0#8),p8 32 (fun _=>0#8),p4 (0#32),p8 64 (fun _=>0#8)]) u rr rr rr (cj.run 5) ⟨fun _ _=>rr,fun _ _=>rr,fun _ _=>rr,fun _ _=>rr,fun _ _=>rr,fun _ _=>rr,fun _ _=>rr,fun _ _=>rr,fun _ _=>rr,fun _ _=>rr,fun _ _=>rr,fun _ _=>rr,fun _ _=>rr,fun _ _=>rr,fun _ _=>rr,fun _ _=>rr,fun _ _=>rr,trivial⟩ (by kernel_rfl) (av.keep ae.nil) fun ec fn=>?_
   simp only [ao,List.take_succ_cons,List.take_zero,List.drop_succ_cons,List.drop_zero,List.length_cons,List.length_nil,Nat.zero_add,Nat.reduceAdd,List.cons_append,List.nil_append] at fn
   refine bA (ps:= [p8 16 (fun _=>0#8),p4 (0#32),p8 32 (fun _=>0#8),p4 (0#32),p4 (0#32)]) fn rr rr rr (.cons 0 rr (.cons 1 rr (.cons 2 rr (.cons 3 rr (.cons 4 rr .nil))))) ⟨fun _ _=>rr,fun _ _=>rr,fun _ _=>rr,fun _ _=>rr,fun _ _=>rr,trivial⟩ iw (av.keep ae.nil) fun lo Z=>?_
   simp only [ah,ai,aq,ar] at Z
   refine aV rr rr<|ak rr rr<|aa.fin fd ?_;clear fd
   refine W.ret (a' (aB ?_))
   have it:=Z.cN
   have f0:=St.aF (C:= [_,_,_,_,_,_,_,_,_,_,_,_,_,_,_,_,_,_,_,_,_,_,_,_,_,_,_,_,_,_,_,_,_,_,_,_,_,_,_,_]) it [0] (by decide)
   simp only [pick,aL,aK,aM,aJ,ah,ai] at f0
   subst r
   refine ax.mk (.agg Z rr (.cons 5 rr (.cons 6 rr (.cons 7 rr (.cons 8 rr (.cons 9 rr (.cons 10 rr (.cons 11 rr (.cons 12 rr (.cons 13 rr (.cons 14 rr (.cons 15 rr (.cons 16 rr (.cons 17 rr (.cons 18 rr (.cons 19 rr (.cons 20 rr (.cons 21 rr .nil))))))))))))))))) (by kernel_rfl) (.agg Z rr (.cons 0 rr (.cons 1 rr (.cons 2 rr (.cons 3 rr (.cons 4 rr .nil))))) ei (.bD rr (.bj rr .nil)))) ?_
   exact ⟨none,none,0,0,(fun _=>0#8),rr,f0,Ow.nil⟩
  ·
   replace c:=az c V
   refine aO (congrArg Value.bool (decide_eq_false V)) ?_
   refine W.skip ?_
   refine es _ _ ?_;clear es
   refine ad fun _ f1=>ag 15 8191 ?_
   refine bm q2 rr rr<|aP u 22 rr rr rr hJ<|aa.fieldAddr 208 gz rr rr<|aX u 29 rr rr rr (by omega) bf<|nN .u32 (X:=g) (Y:=1#32) rr rr rr<|aa.fieldAddr 48 nS rr rr<|aa.fieldAddr 32 ub rr rr<|aP u 25 rr rr rr ba ?_
   refine aa.fieldAddr 212 vI rr rr<|aX u 33 rr rr rr (by omega) bf<|aa.fieldAddr 210 gR rr rr<|aX u 31 rr rr rr (by omega) bf ?_
   refine dt (ps:= [p8 16 h,p4 (g - (1#32)),p8 32 k,p4 l,p4 i]) DF (by decide) ik rr rr (.agg [] [p8 16 (fun _=>0#8)] [p4 (0#32),p8 32 (fun _=>0#8),p4 (0#32),p4 (0#32)] [p8 16 h] rr rr (.one [p8 16 h] [p8 32 (fun _=>0#8),p4 (0#32),p4 (0#32)] (fun _=>VU .u32 (0#32)) rr rr (.agg [p8 16 h,p4 (g - (1#32))] [p8 32 (fun _=>0#8)] [p4 (0#32),p4 (0#32)] [p8 32 k] rr rr (.one [p8 16 h,p4 (g - (1#32)),p8 32 k] [p4 (0#32)] (fun _=>VU .u32 (0#32)) rr rr (.one [p8 16 h,p4 (g - (1#32)),p8 32 k,p4 l] [] (fun _=>VU .u32 (0#32)) rr rr .nil))))) ?_
   refine aa.alloc u rr ik (ae.cons 31 rr (ae.cons 33 rr (ae.cons 25 rr (ae.cons 29 rr (ae.cons 22 rr ae.nil))))) fun ls lt lw f2=>?_
   simp only [ao,Nat.zero_add,Nat.reduceAdd,ah,ai] at f2
   refine bA (ps:= [p8 16 h,p4 (g - (1#32)),p8 32 k,p4 l,p4 i]) f2 rr rr rr (.cons 0 rr (.cons 1 rr (.cons 2 rr (.cons 3 rr (.cons 4 rr .nil))))) ⟨fun _ _=>rr,fun _ _=>rr,fun _ _=>rr,fun _ _=>rr,fun _ _=>rr,trivial⟩ iw (av.wait rr) fun md be=>?_
   simp only [ah,ai,aq,ar] at be
   refine aa.fin f1 ?_;clear f1
   refine ad fun _ f3=>ag 10 59 ?_
   refine aa.fieldAddr 144 mc rr rr<|aP be 32 rr rr rr ba ?_
   obtain ⟨bi,i0,i1,c⟩:=c
   refine aw oJ (pQ (iG1:=iG1+44) co (iG2:=iG2+44) cs i1 be) ?_
   rintro _ mp ⟨rfl,i2⟩
   refine ⟨_,rr,.inr ⟨rr,?_⟩⟩
   refine bK rr rr<|b5 rr rr rr<|b5 rr rr rr ?_
   refine aa.alloc i2 rr c4 ae.nil fun ms mt m0 f4=>?_
   simp only [ao,Nat.zero_add,Nat.reduceAdd,ah,ai] at f4
   refine aa.alloc f4 rr c4 ae.nil fun m1 m2 m3 f5=>?_
   simp only [ao,Nat.zero_add,Nat.reduceAdd,ah,ai] at f5
   refine aY (f':=fun q=>VU .u8 (bi q)) f5 1 rr rr rr rr (fun _ _=>rr) bP rr fun m4 f6=>?_
   simp only [ah,ai,aq,ar] at f6
   refine aY (f':=fun q=>VU .u8 (i0 q)) f6 0 rr rr rr rr (fun _ _=>rr) bP rr fun m5 f7=>?_
   simp only [ah,ai,aq,ar] at f7
   refine aa.fin f3 ?_;clear f3
   refine ad fun _ f8=>?_
   refine bd a7 [1,3,5,7,11,8,12,15,17,19,21,23] ?_
   have am:=f7.drew
   refine aP am 0 rr rr rr ba<|bO am rr rr (.cons 29 rr (.cons 30 rr (.cons 31 rr (.cons 32 rr (.cons 33 rr (.cons 34 rr (.cons 35 rr (.cons 36 rr (.cons 37 rr (.cons 38 rr (.cons 39 rr (.cons 40 rr (.cons 41 rr (.cons 42 rr (.cons 43 rr (.cons 44 rr (.cons 45 rr .nil))))))))))))))))) (by kernel_rfl)<|bO am rr rr (.cons 2 rr (.cons 3 rr (.cons 4 rr (.cons 5 rr (.cons 6 rr .nil))))) ei<|aE rr rr<|aE rr rr ?_
   obtain ⟨m6,i3,c⟩:=c
   refine dm se (sy (ds.app [_,_,_,_,_,_,_,_,_,_,_,_,_,_,_,_,_,_,_,_,_,_,_,_,_,_,_,_,_,_,_,_,_,_,_,_,_,_,_,_,_,_,_,_,_,_]) i3 am) ?_
   rintro _ m7 ⟨m8,m9,m',ne,nl,rfl,f9,gc⟩
   obtain rfl:=gc.hl
   refine ⟨_,rr,_,_,_,_,f9,(by exact (av.mix _ (aH.drop rr (aH.drop rr (aH.keep rr aH.nil))) (ae.cons 1 rr ae.nil))),?_⟩
   obtain ⟨i4,bv,i5,c⟩:=c
   refine aw E3 (Ek (iG1:=iG1+47) co (iG2:=iG2+47) cs (by exact (gc.bx 0 rr)) (c2.app [_,_,_,_,_,_,_,_,_,_,_,_,_,_,_,_,_,_,_,_,_,_,_,_,_,_,_,_,_,_,_,_,_,_,_,_,_,_,_,_,_,_,_,_,_,_,_]) i5 f9) ?_
   rintro _ no ⟨i6,i7,n5,i8,i9,rfl,cc,cd⟩
   try dsimp only at cd
   obtain rfl:=cd.hl
   refine ⟨_,rr,.inr ⟨rr,?_⟩⟩
   refine bK rr rr<|dh rr rr rr<|b' rr rr rr<|aV rr rr<|ak rr rr<|aa.fin f8 ?_;clear f8
   refine ad fun _ gd=>ad fun _ ge=>?_
   refine ag 2 3 ?_
   refine aj rr rr<|aR (a:=(((bv:Nat):Int):Int)) (b:=(0:Int)) (p:=bv≠0) rr rr rr rr cm<|aa.fin ge ?_;clear ge
   by_cases ap:bv≠0
   ·
    replace c:=aA c ap
    refine aG (congrArg Value.bool (decide_eq_true ap)) ?_
    refine ad fun _ go=>ag 7 103 ?_
    refine fY mO eu rr<|fY yR ik rr<|aj rr rr ?_
    refine bA (ps:= [p8 16 (fun _=>0#8),p8 32 (fun _=>0#8),p8 32 (fun _=>0#8),p8 32 (fun _=>0#8),p8 32 (fun _=>0#8),p8 32 (fun _=>0#8),p8 32 (fun _=>0#8),p4 (0#32),p4 (0#32),p4 (0#32),p4 (0#32),p4 (0#32),p4 (0#32),p8 32 (fun _=>0#8),p8 32 (fun _=>0#8),p4 (0#32),p8 64 (fun _=>0#8)]) cc rr rr rr (cj.run 14) ⟨fun _ _=>rr,fun _ _=>rr,fun _ _=>rr,fun _ _=>rr,fun _ _=>rr,fun _ _=>rr,fun _ _=>rr,fun _ _=>rr,fun _ _=>rr,fun _ _=>rr,fun _ _=>rr,fun _ _=>rr,fun _ _=>rr,fun _ _=>rr,fun _ _=>rr,fun _ _=>rr,fun _ _=>rr,trivial⟩ (by kernel_rfl) (av.keep ae.nil) fun n6 gs=>?_
    simp only [ao,List.take_succ_cons,List.take_zero,List.drop_succ_cons,List.drop_zero,List.length_cons,List.length_nil,Nat.zero_add,Nat.reduceAdd,List.cons_append,List.nil_append] at gs
    refine bA (ps:= [p8 16 (fun _=>0#8),p4 (0#32),p8 32 (fun _=>0#8),p4 (0#32),p4 (0#32)]) gs rr rr rr (.cons 9 rr (.cons 10 rr (.cons 11 rr (.cons 12 rr (.cons 13 rr .nil))))) ⟨fun _ _=>rr,fun _ _=>rr,fun _ _=>rr,fun _ _=>rr,fun _ _=>rr,trivial⟩ iw (av.keep ae.nil) fun n7 a0=>?_
    simp only [ah,ai,aq,ar] at a0
    refine aV rr rr<|ak rr rr<|aa.fin go ?_;clear go
    refine W.ret (a' (aB ?_))
    have jd:=a0.cN
    have gt:=St.aF (C:= [_,_,_,_,_,_,_,_,_,_,_,_,_,_,_,_,_,_,_,_,_,_,_,_,_,_,_,_,_,_,_,_,_,_,_,_,_,_,_,_,_,_,_,_,_,_,_,_,_]) jd [0] (by decide)
    simp only [pick,aL,aK,aM,aJ,ah,ai] at gt
    subst r
    refine ax.mk (.agg a0 rr (.cons 14 rr (.cons 15 rr (.cons 16 rr (.cons 17 rr (.cons 18 rr (.cons 19 rr (.cons 20 rr (.cons 21 rr (.cons 22 rr (.cons 23 rr (.cons 24 rr (.cons 25 rr (.cons 26 rr (.cons 27 rr (.cons 28 rr (.cons 29 rr (.cons 30 rr .nil))))))))))))))))) (by kernel_rfl) (.agg a0 rr (.cons 9 rr (.cons 10 rr (.cons 11 rr (.cons 12 rr (.cons 13 rr .nil))))) ei (.bD rr (.bj rr .nil)))) ?_
    exact ⟨none,none,0,0,(fun _=>0#8),rr,gt,Ow.nil⟩
   ·
    replace c:=az c ap
    refine aO (congrArg Value.bool (decide_eq_false ap)) ?_
    refine W.skip ?_
    refine gd _ _ ?_;clear gd
    refine ad fun _ g0=>ag 3 3 ?_
    refine aP cc 3 rr rr rr ba<|aa.fieldAddr 144 mc rr rr ?_
    refine aY (f':=fun q=>VU .u8 (bi q)) cc 36 rr rr rr rr (fun _ _=>rr) bP rr fun n8 ce=>?_
    simp only [ah,ai,aq,ar] at ce
    refine aa.fin g0 ?_;clear g0
    refine ad fun _ g1=>ag 5 15 ?_
    refine aa.fieldAddr 210 gR rr rr<|aX ce 40 rr rr rr (by omega) bf<|cD .u32 (X:=i) (Y:=1#32) rr rr rr<|aa.fieldAddr 210 gR rr rr ?_
    refine gn ce 40 rr rr rr rr fC rr fun ok ci=>?_
    simp only [ah,ai,aq,ar] at ci
    refine aa.fin g1 ?_;clear g1
    refine ad fun _ g2=>ag 5 15 ?_
    refine aa.fieldAddr 213 sa rr rr<|aX ci 43 rr rr rr (by omega) bf<|cD .u32 (X:=m) (Y:=1#32) rr rr rr<|aa.fieldAddr 213 sa rr rr ?_
    refine gn ci 43 rr rr rr rr fC rr fun ol g3=>?_
    simp only [ah,ai,aq,ar] at g3
    refine aa.fin g2 ?_;clear g2
    refine ad fun _ g5=>?_
    refine bd a7 [1,3,5,6,8,11,13] ?_
    have cl:=g3.drew
    refine bO cl rr rr (.cons 31 rr (.cons 32 rr (.cons 33 rr (.cons 34 rr (.cons 35 rr (.cons 36 rr (.cons 37 rr (.cons 38 rr (.cons 39 rr (.cons 40 rr (.cons 41 rr (.cons 42 rr (.cons 43 rr (.cons 44 rr (.cons 45 rr (.cons 46 rr (.cons 47 rr .nil))))))))))))))))) (by kernel_rfl)<|bO cl rr rr (.cons 4 rr (.cons 5 rr (.cons 6 rr (.cons 7 rr (.cons 8 rr .nil))))) ei<|aE rr rr ?_
    refine bA (ps:= [p8 16 h,p8 32 v,p8 32 x,p8 32 k,p8 32 y,p8 32 bi,p8 32 z,p4 g,p4 A,p4 (i+(1#32)),p4 D,p4 l,p4 (m+(1#32)),p8 32 E,p8 32 F,p4 G,p8 64 H]) cl rr rr rr (cj.run 14) ⟨fun _ _=>rr,fun _ _=>rr,fun _ _=>rr,fun _ _=>rr,fun _ _=>rr,fun _ _=>rr,fun _ _=>rr,fun _ _=>rr,fun _ _=>rr,fun _ _=>rr,fun _ _=>rr,fun _ _=>rr,fun _ _=>rr,fun _ _=>rr,fun _ _=>rr,fun _ _=>rr,fun _ _=>rr,trivial⟩ (by kernel_rfl) (av.mix _ (aH.keep rr (aH.drop rr aH.nil)) (ae.parts (.cons 4 rr (.cons 5 rr (.cons 6 rr (.cons 7 rr (.cons 8 rr .nil))))) ae.nil)) fun on g6=>?_
    simp only [ao,List.take_succ_cons,List.take_zero,List.drop_succ_cons,List.drop_zero,List.length_cons,List.length_nil,Nat.zero_add,Nat.reduceAdd,List.cons_append,List.nil_append] at g6
    refine bA (ps:= [p8 16 h,p4 (g - (1#32)),p8 32 k,p4 l,p4 i]) g6 rr rr rr (.cons 9 rr (.cons 10 rr (.cons 11 rr (.cons 12 rr (.cons 13 rr .nil))))) ⟨fun _ _=>rr,fun _ _=>rr,fun _ _=>rr,fun _ _=>rr,fun _ _=>rr,trivial⟩ iw (av.wait rr) fun op a2=>?_
    simp only [ah,ai,aq,ar] at a2
    refine aV rr rr<|ak rr rr<|aa.fin g5 ?_;clear g5
    refine W.ret (aB ?_)
    have g7:=St.aF (C:= [_,_,_,_,_,_,_,_,_,_,_,_,_,_,_,_,_,_,_,_,_,_,_,_,_,_,_,_,_,_,_,_,_,_,_,_,_,_,_,_,_,_,_,_,_,_,_,_]) a2 [0] (by decide)
    simp only [pick,aL,aK,aM,aJ,ah,ai] at g7
    subst r
    refine ax.mk (.agg a2 rr (.cons 14 rr (.cons 15 rr (.cons 16 rr (.cons 17 rr (.cons 18 rr (.cons 19 rr (.cons 20 rr (.cons 21 rr (.cons 22 rr (.cons 23 rr (.cons 24 rr (.cons 25 rr (.cons 26 rr (.cons 27 rr (.cons 28 rr (.cons 29 rr (.cons 30 rr .nil))))))))))))))))) (by kernel_rfl) (.agg a2 rr (.cons 9 rr (.cons 10 rr (.cons 11 rr (.cons 12 rr (.cons 13 rr .nil))))) ei (.bD rr (.bj rr .nil)))) ?_
    exact ⟨i6,i7,i4.length,i8,i9,rr,g7,cd⟩
set_option maxRecDepth 8000 in
set_option maxHeartbeats 16000000 in
theorem pP {B:Nat} {w0:aC} {w:World} {L:List Rg} {g i:U4} {j:K8} {k l:U4} {m:K8} {r:Int} (a:jO g i j k l m r) (x:St B w0 (L) w):
  Calls Tryz.prog 58 #[AG [p4 g,p4 i,p8 32 j],AG [p4 k,p4 l,p8 32 m]] w fun e w'=>e= .returned (.int .i64 r)∧St B w0 (L) w':=by
 refine W.enter 17 Tryz.func58 rr rr rr ?_
 unfold jO at a
 refine ad fun _ n=>ag 3 4 ?_
 refine bp x rr rr ae.nil fun H I J o=>?_
 simp only [ao,Nat.zero_add,Nat.reduceAdd,ah,ai] at o
 refine bp o rr rr ae.nil fun K M N p=>?_
 simp only [ao,Nat.zero_add,Nat.reduceAdd,ah,ai] at p
 refine ak rr rr<|aa.fin n ?_;clear n
 refine ad fun _ q=>?_
 refine bd a7 [1,3,5,7,11,13,15,17,8,18,20,22,25] ?_
 have b:=p.drew
 refine bm yb rr rr<|aX b 3 rr rr rr (by omega) bf<|bm yb rr rr<|aX b 0 rr rr rr (by omega) bf<|aa.fieldAddr 1 yY rr rr<|aX b 4 rr rr rr (by omega) bf<|aa.fieldAddr 1 yY rr rr<|aX b 1 rr rr rr (by omega) bf ?_
 obtain ⟨c,y,a⟩:=a
 refine dm wP (x6 y b) ?_
 rintro _ O ⟨rfl,s⟩
 refine ⟨_,rr,_,_,_,_,s,(by exact (av.mix _ (aH.keep rr (aH.keep rr (aH.drop rr (aH.drop rr aH.nil)))) (ae.cons 1 rr (ae.cons 4 rr ae.nil)))),?_⟩
 obtain ⟨d,z,a⟩:=a
 refine aw wP (x6 z s) ?_
 rintro _ P ⟨rfl,A⟩
 refine ⟨_,rr,.inr ⟨rr,?_⟩⟩
 refine iB (D:=D3) (sz:=1) A [((),c),((),d)] DL tX z8 (by decide) (by decide) rr rr rr rr (fun _ _=>trivial) (av.keep ae.nil) fun t Q E R f F=>?_
 replace f:LO D3 [] (some ⟨t,0,none⟩) (some t) ([c,d]:List Int).length 2 E ([c,d]:List Int):=f.re (fun _ _ h=>h)
 obtain ⟨S,G,a⟩:=a
 refine aw FB (Fv (by exact (cZ DO f 0 rr)) G F) ?_
 rintro _ T ⟨rfl,u⟩
 refine ⟨_,rr,.inl ⟨ae.keep (by exact ae.nil) u,?_⟩⟩
 refine ak rr rr<|aa.fin q ?_;clear q
 refine W.ret (aB ?_)
 have v:=St.aF (C:= [_,_,_,_,_,_,_]) u [] (by decide)
 simp only [pick,aL,aK,aM,aJ,ah,ai] at v
 subst r
 refine ax.mk (.bj rr .nil) ?_
 exact ⟨rr,v⟩
set_option maxRecDepth 8000 in
set_option maxHeartbeats 16000000 in
theorem y3 {B:Nat} {w0:aC} {w:World} {L:List Rg} {f:aZ} {m:Option Addr} {q n H:Nat} (g:LV bB L H m q n f) {r:Bool} (c:qa f r) (I:St B w0 (L) w):
  Calls Tryz.prog 32 #[.slice m q n] w fun e w'=>e= .returned (.bool r)∧St B w0 (L) w':=by
 refine W.enter 21 Tryz.func32 rr rr rr ?_
 unfold qa at c
 have J:=g.hl;subst J
 refine ad fun _ s=>ag 1 1 ?_
 refine a8 rr rr<|aa.fin s ?_;clear s
 refine ad fun _ t=>ad fun _ u=>?_
 refine ag 1 1 ?_
 refine ak rr rr<|aa.fin u ?_;clear u
 obtain ⟨K,M,N⟩:=c
 refine bq (fun e w=>K=some ()∧aU e []∧St B w0 (L) w) ?_ ?_
 ·
  refine W.block ?_
  refine bS M (fun (O:Nat) e w=>aU e [(0,.slice m f.length n),(3,VN O)]∧St B w0 (L) w) ⟨(ab (ab au)),I⟩ ?_
  rintro d Z c P Q am ⟨R,v⟩
  obtain ⟨Q,rfl⟩:=R.open
  unfold xo at c
  refine ad fun _ x=>ad fun _ y=>?_
  refine ag 4 15 ?_
  refine aj rr rr<|aE rr rr<|aa.len iN rr rr<|aR (a:=(((d:Nat):Int):Int)) (b:=(((f.length:Nat):Int):Int)) (p:=d < f.length) rr rr rr rr bW<|aa.fin y ?_;clear y
  by_cases k:d < f.length
  ·
   replace c:=aA c k
   refine aG (congrArg Value.bool (decide_eq_true k)) ?_
   refine W.skip ?_
   refine x _ _ ?_;clear x
   refine ad fun _ z=>?_
   refine W.block ?_
   refine ad fun _ A=>?_
   refine bd a7 [1,3,5,7,9,11,13,15,17,18,21] ?_
   have h:=v.drew
   refine aE rr rr<|aj rr rr ?_
   obtain ⟨ap,c⟩:=c
   refine d' (a:=((d:Nat):Int)) (b:=1) rr rr rr (by omega) ?_
   obtain ⟨i,c⟩:=c
   refine f_ (D:=bB) (j:=(((d:Nat):Int) - 1).toNat) h g gY rr rr (congrArg (Value.int .i64) (Int.toNat_of_nonneg i.1).symm) (toNat_lt i.1 i.2) ?_
   refine ht (D:=bB) (X:=f) (j:=(((d:Nat):Int) - 1).toNat) (sz:=34) h (0#32,0#32,(fun _=>0#8)) g rr rr (toNat_lt i.1 i.2) rr kh fun a0 a2 a3 a4=>?_
   refine aE rr rr<|aj rr rr ?_
   obtain ⟨C,c⟩:=c
   refine f_ (D:=bB) (j:=d) h g gY rr rr rr C ?_
   refine ht (D:=bB) (X:=f) (j:=d) (sz:=34) h (0#32,0#32,(fun _=>0#8)) g rr rr C rr kh fun a5 a9 be bi=>?_
   obtain ⟨o,S,c⟩:=c
   refine aw ss (pP S h) ?_
   rintro _ bv ⟨rfl,E⟩
   refine ⟨_,rr,.inr ⟨rr,?_⟩⟩
   refine aR (a:=(o:Int)) (b:=(0:Int)) (p:=0≤o) rr rr rr rr mo<|aa.fin A ?_;clear A
   by_cases l:0≤o
   ·
    replace c:=aA c l
    refine aG (congrArg Value.bool (decide_eq_true l)) ?_
    refine ad fun _ F=>ag 1 1 ?_
    refine a8 rr rr<|aa.fin F ?_;clear F
    refine W.ret (dD (a' (po (dD (a' (a' (aB ?_)))))))
    replace c:=c.2
    subst r
    refine ax.mk (.b2 rr .nil) ?_
    exact ⟨rr,E⟩
   ·
    replace c:=az c l
    refine aO (congrArg Value.bool (decide_eq_false l)) ?_
    refine W.skip ?_
    refine bo ?_
    refine z _ _ ?_;clear z
    refine ag 3 7 ?_
    refine aj rr rr ?_
    obtain ⟨cc,c⟩:=c
    refine bu (a:=d) (b:=1) rr rr rr (by omega)<|ak rr rr<|aa.nil ?_
    exact bG ⟨_,c,(ab (ab au)),E⟩
  ·
   replace c:=az c k
   refine aO (congrArg Value.bool (decide_eq_false k)) ?_
   refine W.exit (bM (bU (bL ?_)))
   exact ⟨(P _ c).symm,au,v⟩
 ·
  rintro T cd ⟨U,V,Y⟩
  obtain ⟨T,rfl⟩:=V.open
  replace c:=N U
  refine t _ _ ?_;clear t
  refine ad fun _ G=>ag 1 1 ?_
  refine a8 rr rr<|aa.fin G ?_;clear G
  refine W.ret (aB ?_)
  subst r
  refine ax.mk (.b2 rr .nil) ?_
  exact ⟨rr,Y⟩
set_option maxRecDepth 8000 in
set_option maxHeartbeats 16000000 in
theorem Bf {B:Nat} {w0:aC} {w:World} {L:List Rg} {c:Nat} {n o q s t u x:K8} {y f z i A C:U4} {D E:K8} {F:U4} {G:K8} {Z:aZ} {H:Option Addr} {I J a2:Nat} (a3:LV bB L a2 H I J Z) {K M N O P:Int} {Q:U4} {R:K8} {d:U4} {S:K8} {T j:U4} {am:bb} {U:Option Addr} {V X a4:Nat} (a5:LV cx L a4 U V X am) {r:Bool} (g:ki n o q s t u x y f z i A C D E F G Z K M N O P Q R d S T j am r) (a9:St B w0 (g8 c 0 16 n::g8 c 16 32 o::g8 c 48 32 q::g8 c 80 32 s::g8 c 112 32 t::g8 c 144 32 u::g8 c 176 32 x::g4 c 208 y::g4 c 209 f::g4 c 210 z::g4 c 211 i::g4 c 212 A::g4 c 213 C::g8 c 214 32 D::g8 c 246 32 E::g4 c 278 F::g8 c 279 64 G::g1 c 343 (.slice H I J)::g1 c 344 (.int .i64 K)::g1 c 345 (.int .i64 M)::g1 c 346 (.int .i64 N)::g1 c 347 (.int .i64 O)::g1 c 348 (.int .i64 P)::g4 c 349 Q::g8 c 350 16 R::g4 c 366 d::g8 c 367 32 S::g4 c 399 T::g4 c 400 j::g1 c 401 (.slice U V X)::L) w):
  Calls Tryz.prog 59 #[pt c 0] w fun e w'=>e= .returned (.bool r)∧St B w0 (g8 c 0 16 n::g8 c 16 32 o::g8 c 48 32 q::g8 c 80 32 s::g8 c 112 32 t::g8 c 144 32 u::g8 c 176 32 x::g4 c 208 y::g4 c 209 f::g4 c 210 z::g4 c 211 i::g4 c 212 A::g4 c 213 C::g8 c 214 32 D::g8 c 246 32 E::g4 c 278 F::g8 c 279 64 G::g1 c 343 (.slice H I J)::g1 c 344 (.int .i64 K)::g1 c 345 (.int .i64 M)::g1 c 346 (.int .i64 N)::g1 c 347 (.int .i64 O)::g1 c 348 (.int .i64 P)::g4 c 349 Q::g8 c 350 16 R::g4 c 366 d::g8 c 367 32 S::g4 c 399 T::g4 c 400 j::g1 c 401 (.slice U V X)::L) w':=by
 refine W.enter 39 Tryz.func59 rr rr rr ?_
 unfold ki at g
 have be:=a3.hl;subst be
 have bi:=a5.hl;subst bi
 refine ad fun _ ap=>ag 1 1 ?_
 refine a8 rr rr<|aa.fin ap ?_;clear ap
 refine ad fun _ a0=>?_
 refine bd a7 [1,3,5,7,9,11,13,15,17,19,21,23,25,27,29] ?_
 have Y:=a9.drew
 refine aD rr rr<|aa.nilCheck rr rr<|aa.fieldAddr 350 e7 rr rr<|aa.fieldAddr 16 gi rr rr<|aX Y 25 rr rr rr (by omega) bf<|h8 (a:=d.toNat) gX eP rr rr (Nat.lt_of_lt_of_le d.isLt (by decide))<|bu (a:=d.toNat) (b:=1) rr rr rr (by omega)<|aD rr rr ?_
 refine aa.nilCheck rr rr<|bm fx rr rr<|aa.fieldAddr 209 e8 rr rr<|aX Y 8 rr rr rr (by omega) bf<|h8 (a:=f.toNat) gX eP rr rr (Nat.lt_of_lt_of_le f.isLt (by decide))<|ak rr rr<|ak rr rr<|aa.fin a0 ?_;clear a0
 refine ad fun _ h=>?_
 refine bd a7 [1,3,5,7,9,11,13,15,17,19,21,23,25,27,29,31,33,35,37,39,41,43] ?_
 have k:=Y.drew
 refine aj rr rr<|aj rr rr ?_
 by_cases l:(d.toNat+1) < f.toNat
 ·
  replace g:=aA g l
  refine bI (a:=((((d.toNat+1):Nat):Int):Int)) (b:=(((f.toNat:Nat):Int):Int)) (p:=(d.toNat+1) < f.toNat) (v:=true) rr rr rr rr bW (decide_eq_true l)<|a_ rr rr<|al rr<|al rr<|al rr<|al rr<|al rr<|al rr ?_
  refine al rr<|al rr<|al rr<|al rr<|al rr<|al rr<|al rr<|al rr ?_
  refine al rr<|al rr<|b0 rr rr rr<|a8 rr rr<|aa.fin h ?_;clear h
  refine W.ret (aB ?_)
  subst r
  refine ax.mk (.b2 rr .nil) ?_
  exact ⟨rr,k⟩
 ·
  replace g:=az g l
  refine bI (a:=((((d.toNat+1):Nat):Int):Int)) (b:=(((f.toNat:Nat):Int):Int)) (p:=(d.toNat+1) < f.toNat) (v:=false) rr rr rr rr bW (decide_eq_false l)<|a_ rr rr<|aj rr rr<|aj rr rr ?_
  by_cases m:(d.toNat+1)=f.toNat
  ·
   replace g:=aA g m
   refine bI (a:=((((d.toNat+1):Nat):Int):Int)) (b:=(((f.toNat:Nat):Int):Int)) (p:=(d.toNat+1)=f.toNat) (v:=true) rr rr rr rr fL (decide_eq_true m)<|a_ rr rr<|aD rr rr<|aa.nilCheck rr rr<|aa.fieldAddr 350 e7 rr rr<|aa.fieldAddr 50 gl rr rr<|aX k 28 rr rr rr (by omega) bf<|aD rr rr ?_
   refine aa.nilCheck rr rr<|bm fx rr rr<|aa.fieldAddr 211 r8 rr rr<|aX k 10 rr rr rr (by omega) bf<|aR (a:=(j.toNat:Int)) (b:=(i.toNat:Int)) (p:=j.toNat < i.toNat) rr rr rr rr bW<|b0 rr rr rr<|ca rr rr rr<|a8 rr rr ?_
   refine aa.fin h ?_;clear h
   refine W.ret (aB ?_)
   subst r
   refine ax.mk (.b2 rr .nil) ?_
   exact ⟨rr,k⟩
  ·
   replace g:=az g m
   refine bI (a:=((((d.toNat+1):Nat):Int):Int)) (b:=(((f.toNat:Nat):Int):Int)) (p:=(d.toNat+1)=f.toNat) (v:=false) rr rr rr rr fL (decide_eq_false m)<|a_ rr rr<|al rr<|al rr<|al rr<|al rr<|al rr<|al rr ?_
   refine al rr<|al rr<|al rr<|al rr<|al rr<|ca rr rr rr<|ca rr rr rr<|a8 rr rr ?_
   refine aa.fin h ?_;clear h
   refine W.ret (aB ?_)
   subst r
   refine ax.mk (.b2 rr .nil) ?_
   exact ⟨rr,k⟩
theorem Dr {B:Nat} {w0:aC} {w:World} {L:List Rg} {g:aZ} {t:Option Addr} {H u a0:Nat} (q:LV bB L a0 t H u g) {m n:U4} {o:K8} {r:(Nat×Bool)} (d:qR g m n o r) (a2:St B w0 (L) w):
  Calls Tryz.prog 130 #[.slice t H u,AG [p4 m,p4 n,p8 32 o],.func (.func 58) #[] #[]] w fun e w'=>e= .returned (.tuple #[VN r.1,.bool r.2])∧St B w0 (L) w':=by
 refine W.enter 49 Tryz.func130 rr rr rr ?_
 unfold qR at d
 have a3:=q.hl;subst a3
 refine ad fun _ I=>ag 3 6 ?_
 refine bp a2 rr rr ae.nil fun l c2 dl J=>?_
 simp only [ao,Nat.zero_add,Nat.reduceAdd,ah,ai] at J
 refine ak rr rr<|a8 rr rr<|aa.fin I ?_;clear I
 refine ad fun _ K=>ag 3 7 ?_
 refine aE rr rr<|aa.len iN rr rr<|ak rr rr<|aa.fin K ?_;clear K
 refine ad fun _ M=>ag 3 7 ?_
 refine aj rr rr<|ak rr rr<|ak rr rr<|aa.fin M ?_;clear M
 refine ad fun _ N=>?_
 obtain ⟨k,a4,a5⟩:=d
 refine bq (fun e w=>∃F:Nat,k=F∧aU e [(0,.slice t g.length u),(2,.func (.func 58) #[] #[]),(4,pt l 0),(8,VN g.length),(9,VN F)]∧St B w0 (g4 l 0 m::g4 l 1 n::g8 l 2 32 o::L) w) ?_ ?_
 ·
  refine W.block ?_
  refine bS a4 (fun (O:(Nat×Nat)) e w=>aU e [(0,.slice t g.length u),(2,.func (.func 58) #[] #[]),(4,pt l 0),(8,VN g.length),(9,VN O.1),(10,VN O.2)]∧St B w0 (g4 l 0 m::g4 l 1 n::g8 l 2 32 o::L) w) ⟨(ab (ab (ab (ab (ab (ab au)))))),J⟩ ?_
  rintro ⟨h,i⟩ ds d a9 be d0 ⟨bi,P⟩
  obtain ⟨be,rfl⟩:=bi.open
  unfold ou at d
  refine ad fun _ Q=>ad fun _ R=>?_
  refine ag 3 7 ?_
  refine aj rr rr<|aj rr rr<|aR (a:=(((h:Nat):Int):Int)) (b:=(((i:Nat):Int):Int)) (p:=h < i) rr rr rr rr bW<|aa.fin R ?_;clear R
  by_cases x:h < i
  ·
   replace d:=aA d x
   refine aG (congrArg Value.bool (decide_eq_true x)) ?_
   refine W.skip ?_
   refine Q _ _ ?_;clear Q
   refine W.block ?_
   refine ad fun _ S=>ag 7 127 ?_
   refine aj rr rr<|aj rr rr ?_
   obtain ⟨d1,d⟩:=d
   refine bu (a:=h) (b:=i) rr rr rr (by omega)<|kf .u64 (a:=(h+i)) xk e_ rr rr<|cJ .u64 (X:=(BitVec.ofNat 64 (h+i))) (c:=1) rr rr rr ?_
   obtain ⟨bv,d⟩:=d
   refine h8 (a:=((BitVec.ofNat 64 (h+i)) >>> 1).toNat) gX Cp rr rr bv<|ak rr rr<|aa.fin S ?_;clear S
   refine ad fun _ T=>?_
   refine bd a7 [1,3,5,7,9,11,12,15] ?_
   have y:=P.drew
   refine aa.move rr rr<|aE rr rr<|aj rr rr ?_
   obtain ⟨U,d⟩:=d
   refine f_ (D:=bB) (j:=((BitVec.ofNat 64 (h+i)) >>> 1).toNat) y (q.app [_,_,_]) gY rr rr rr U ?_
   refine ht (D:=bB) (X:=g) (j:=((BitVec.ofNat 64 (h+i)) >>> 1).toNat) (sz:=34) y (0#32,0#32,(fun _=>0#8)) (q.app [_,_,_]) rr rr U rr kh fun d2 d3 d4 d5=>?_
   refine bO y rr rr (.cons 0 rr (.cons 1 rr (.cons 2 rr .nil))) kh ?_
   obtain ⟨G,cc,d⟩:=d
   refine nH (f:=58) (vs:= [AG [p4 ((g.getD (((BitVec.ofNat 64 (h+i)) >>> 1).toNat) (0#32,0#32,(fun _=>0#8))).1),p4 ((g.getD (((BitVec.ofNat 64 (h+i)) >>> 1).toNat) (0#32,0#32,(fun _=>0#8))).2.1),p8 32 ((g.getD (((BitVec.ofNat 64 (h+i)) >>> 1).toNat) (0#32,0#32,(fun _=>0#8))).2.2)],AG [p4 m,p4 n,p8 32 o]]) (cs:= []) rr rr ss rr (pP cc y) ?_
   rintro _ d6 ⟨rfl,V⟩
   refine ⟨_,rr,.inr ⟨rr,?_⟩⟩
   refine aR (a:=(G:Int)) (b:=(0:Int)) (p:=G < 0) rr rr rr rr fE<|aa.fin T ?_;clear T
   by_cases z:G < 0
   ·
    replace d:=aA d z
    refine aG (congrArg Value.bool (decide_eq_true z)) ?_
    refine ag 3 7 ?_
    refine aj rr rr ?_
    obtain ⟨d7,d⟩:=d
    refine bu (a:=((BitVec.ofNat 64 (h+i)) >>> 1).toNat) (b:=1) rr rr rr (by omega)<|ak rr rr<|aa.nil ?_
    refine bo ?_
    exact bG ⟨_,d,(ab (ab (ab (ab (ab (ab au)))))),V⟩
   ·
    replace d:=az d z
    refine aO (congrArg Value.bool (decide_eq_false z)) ?_
    refine ag 2 3 ?_
    refine aj rr rr<|ak rr rr<|aa.nil ?_
    refine bo ?_
    exact bG ⟨_,d,(ab (ab (ab (ab (ab (ab au)))))),V⟩
  ·
   replace d:=az d x
   refine aO (congrArg Value.bool (decide_eq_false x)) ?_
   refine W.exit (bM (bU (bL ?_)))
   exact ⟨h,(a9 _ d).symm,(ab (ab (ab (ab (ab au))))),P⟩
 ·
  rintro cd d8 ⟨F,ce,ci,cl⟩
  obtain ⟨cd,rfl⟩:=ci.open
  subst ce
  replace d:=a5
  refine N _ _ ?_;clear N
  refine ad fun _ A=>?_
  refine bd a7 [1,3,5,7,9,11,13,15,17,19,21,22,25,27,29,31] ?_
  have s:=cl.drew
  refine aj rr rr<|aj rr rr<|aj rr rr ?_
  by_cases E:k < g.length
  ·
   replace d:=aA d E
   refine bI (a:=(((k:Nat):Int):Int)) (b:=(((g.length:Nat):Int):Int)) (p:=k < g.length) (v:=true) rr rr rr rr bW (decide_eq_true E)<|a_ rr rr<|aa.move rr rr<|aE rr rr<|aj rr rr ?_
   obtain ⟨Y,d⟩:=d
   refine f_ (D:=bB) (j:=k) s (q.app [_,_,_]) gY rr rr rr Y ?_
   refine ht (D:=bB) (X:=g) (j:=k) (sz:=34) s (0#32,0#32,(fun _=>0#8)) (q.app [_,_,_]) rr rr Y rr kh fun d9 el em eq=>?_
   refine bO s rr rr (.cons 0 rr (.cons 1 rr (.cons 2 rr .nil))) kh ?_
   obtain ⟨Z,co,d⟩:=d
   refine nH (f:=58) (vs:= [AG [p4 ((g.getD k (0#32,0#32,(fun _=>0#8))).1),p4 ((g.getD k (0#32,0#32,(fun _=>0#8))).2.1),p8 32 ((g.getD k (0#32,0#32,(fun _=>0#8))).2.2)],AG [p4 m,p4 n,p8 32 o]]) (cs:= []) rr rr ss rr (pP co s) ?_
   rintro _ es ⟨rfl,c1⟩
   refine ⟨_,rr,.inr ⟨rr,?_⟩⟩
   refine aR (a:=(Z:Int)) (b:=(0:Int)) (p:=Z=0) rr rr rr rr j3<|b0 rr rr rr<|ak rr rr<|a8 rr rr<|aa.fin A ?_;clear A
   refine W.ret (aB ?_)
   have am:=St.aF (C:= [_,_,_]) c1 [] (by decide)
   simp only [pick,aL,aK,aM,aJ,ah,ai] at am
   subst r
   refine ax.mk (.bj rr (.b2 rr .nil)) ?_
   exact ⟨rr,am⟩
  ·
   replace d:=az d E
   refine bI (a:=(((k:Nat):Int):Int)) (b:=(((g.length:Nat):Int):Int)) (p:=k < g.length) (v:=false) rr rr rr rr bW (decide_eq_false E)<|a_ rr rr<|al rr<|al rr<|al rr<|al rr<|al rr<|al rr ?_
   refine al rr<|al rr<|ca rr rr rr<|ak rr rr<|a8 rr rr<|aa.fin A ?_;clear A
   refine W.ret (aB ?_)
   have ap:=St.aF (C:= [_,_,_]) s [] (by decide)
   simp only [pick,aL,aK,aM,aJ,ah,ai] at ap
   subst r
   refine ax.mk (.bj rr (.b2 rr .nil)) ?_
   exact ⟨rr,ap⟩
set_option maxRecDepth 8000 in
set_option maxHeartbeats 16000000 in
theorem xm {B:Nat} {w0:aC} {w:World} {L:List Rg} {d:aZ} {f:Option Addr} {g h m:Nat} (i:LV bB L m f g h d) {a b:U4} {r:(Nat×Bool)} (c:ni d a b r) (n:St B w0 (L) w):
  Calls Tryz.prog 93 #[.slice f g h,VU .u32 a,VU .u32 b] w fun e w'=>e= .returned (.tuple #[VN r.1,.bool r.2])∧St B w0 (L) w':=by
 refine W.enter 15 Tryz.func93 rr rr rr ?_
 unfold ni at c
 have o:=i.hl;subst o
 refine ad fun _ j=>ag 2 3 ?_
 refine ak rr rr<|a8 rr rr<|aa.fin j ?_;clear j
 refine ad fun _ k=>ag 9 495 ?_
 refine aE rr rr<|aj rr rr<|aj rr rr ?_
 refine dt (ps:= [p4 a,p4 b,p8 32 (fun _=>0#8)]) yB (by decide) w5 rr rr (.one [] [p4 (0#32),p8 32 (fun _=>0#8)] (fun _=>VU .u32 (0#32)) rr rr (.one [p4 a] [p8 32 (fun _=>0#8)] (fun _=>VU .u32 (0#32)) rr rr .nil)) ?_
 obtain ⟨q,s,p,c⟩:=c
 refine aw Cs (Dr (by exact i) p n) ?_
 rintro _ t ⟨rfl,l⟩
 refine ⟨_,rr,.inl ⟨ae.keep (by exact ae.nil) l,?_⟩⟩
 refine b' rr rr rr<|gb rr rr rr<|ak rr rr<|a8 rr rr<|aa.fin k ?_;clear k
 refine W.ret (aB ?_)
 subst r
 refine ax.mk (.bj rr (.b2 rr .nil)) ?_
 exact ⟨rr,l⟩
set_option maxRecDepth 8000 in
set_option maxHeartbeats 16000000 in
theorem ze {B:Nat} {w0:aC} {w:World} {L:List Rg} {iG1:Nat} (g6:gT L iG1 1 8 .u32 cH) {iG2:Nat} (g7:gT L iG2 2 64 .u32 bE) {c:Nat} {G H I J K M N:K8} {O P Q R S T:U4} {U V:K8} {Y:U4} {Z:K8} {i:aZ} {s:Option Addr} {t:Option Nat} {cs k:Nat} {u:Nat→Value} (f:LO bB [] s t cs k u i) {am ap a0 a2 a3:Int} {a4:U4} {a5:K8} {a9:U4} {be:K8} {bi bv:U4} {l:bb} {n:Option Addr} {o:Option Nat} {c1 h:Nat} {q:Nat→Value} (v:LO cx [] n o c1 h q l) {c2:List af} {dl:Option Addr} {ds d0 g9:Nat} (d1:Bx L g9 dl ds d0 c2) {d2:List af} {d3:Option Addr} {d4 d5 he:Nat} (d6:Bx L he d3 d4 d5 d2) {r:((List af)×Nat×(aZ)×(bb))} (d:rB G H I J K M N O P Q R S T U V Y Z i am ap a0 a2 a3 a4 a5 a9 be bi bv l c2 d2 r) (hi:St B w0 (g8 c 0 16 G::g8 c 16 32 H::g8 c 48 32 I::g8 c 80 32 J::g8 c 112 32 K::g8 c 144 32 M::g8 c 176 32 N::g4 c 208 O::g4 c 209 P::g4 c 210 Q::g4 c 211 R::g4 c 212 S::g4 c 213 T::g8 c 214 32 U::g8 c 246 32 V::g4 c 278 Y::g8 c 279 64 Z::g1 c 343 (.slice s cs k)::gL t (k*34) u::g1 c 344 (.int .i64 am)::g1 c 345 (.int .i64 ap)::g1 c 346 (.int .i64 a0)::g1 c 347 (.int .i64 a2)::g1 c 348 (.int .i64 a3)::g4 c 349 a4::g8 c 350 16 a5::g4 c 366 a9::g8 c 367 32 be::g4 c 399 bi::g4 c 400 bv::g1 c 401 (.slice n c1 h)::gL o (h*3) q::L) w):
  Calls Tryz.prog 60 #[pt c 0,.slice dl ds d0,.slice d3 d4 d5] w fun e w'=>∃d7:Option Addr,∃d8:Option Nat,∃d9 cc:Nat,∃el:Nat→af,∃em:Option Addr,∃eq:Option Nat,∃es cd:Nat,∃ex:Nat→Value,∃fd:Option Addr,∃fn:Option Nat,∃f0 ce:Nat,∃f1:Nat→Value,e= .returned (.tuple #[.slice d7 d9 cc,VN r.2.1])∧St B w0 (gO d8 cc el::g8 c 0 16 G::g8 c 16 32 H::g8 c 48 32 I::g8 c 80 32 J::g8 c 112 32 K::g8 c 144 32 M::g8 c 176 32 N::g4 c 208 O::g4 c 209 P::g4 c 210 Q::g4 c 211 R::g4 c 212 S::g4 c 213 T::g8 c 214 32 U::g8 c 246 32 V::g4 c 278 Y::g8 c 279 64 Z::g1 c 343 (.slice em es cd)::gL eq (cd*34) ex::g1 c 344 (.int .i64 am)::g1 c 345 (.int .i64 ap)::g1 c 346 (.int .i64 a0)::g1 c 347 (.int .i64 a2)::g1 c 348 (.int .i64 a3)::g4 c 349 a4::g8 c 350 16 a5::g4 c 366 a9::g8 c 367 32 be::g4 c 399 bi::g4 c 400 bv::g1 c 401 (.slice fd f0 ce)::gL fn (ce*3) f1::L) w'∧Ow d7 d8 d9 cc el r.1∧LO bB [] em eq es cd ex r.2.2.1∧LO cx [] fd fn f0 ce f1 r.2.2.2:=by
 refine W.enter 70 Tryz.func60 rr rr rr ?_
 unfold rB at d
 have hk:=f.hl;subst hk
 have hm:=v.hl;subst hm
 have hu:=d1.hl;subst hu
 have hw:=d6.hl;subst hw
 refine ad fun _ f2=>ag 2 3 ?_
 refine aV rr rr<|ak rr rr<|aa.fin f2 ?_;clear f2
 refine ad fun _ f3=>?_
 refine bd a7 [1,3,5,7,9,11,13,15,17,19,21,23,25,27,28,31,33,35,37,39] ?_
 have y:=hi.drew
 refine aD rr rr<|aa.nilCheck rr rr<|aa.fieldAddr 343 gM rr rr<|aX y 17 rr rr rr (by omega) hr<|aD rr rr<|aa.nilCheck rr rr<|aa.fieldAddr 350 e7 rr rr<|aa.fieldAddr 16 gi rr rr ?_
 refine aX y 26 rr rr rr (by omega) bf<|aD rr rr<|aa.nilCheck rr rr<|aa.fieldAddr 350 e7 rr rr<|aa.fieldAddr 50 gl rr rr<|aX y 29 rr rr rr (by omega) bf ?_
 obtain ⟨z,hH,hO,d⟩:=d
 refine aw yV (xm (by exact (cZ gg f 18 rr)) hO y) ?_
 rintro _ jd ⟨rfl,f4⟩
 refine ⟨_,rr,.inr ⟨rr,?_⟩⟩
 refine bK rr rr<|b' rr rr rr<|gb rr rr rr<|ak rr rr<|a8 rr rr<|aa.fin f3 ?_;clear f3
 refine ad fun _ f5=>ad fun _ f6=>?_
 refine ag 2 3 ?_
 refine a_ rr rr<|aa.not rr rr<|aa.fin f6 ?_;clear f6
 by_cases A:hH=true
 ·
  replace d:=aA d A
  refine aO (congrArg Value.bool (congrArg Bool.not A)) ?_
  refine W.skip ?_
  refine f5 _ _ ?_;clear f5
  refine ad fun _ f7=>?_
  refine bd a7 [1,3,5,7,9,11,13,15,17,19,21,23,25,27,29,31,33,37,34,38,41,43,45,47,49] ?_
  have g:=f4.drew
  refine aD rr rr<|aa.nilCheck rr rr<|aa.fieldAddr 343 gM rr rr<|aX g 17 rr rr rr (by omega) hr<|aj rr rr ?_
  obtain ⟨ci,d⟩:=d
  refine f_ (D:=bB) (j:=z) g (cZ gg f 18 rr) gY rr rr rr ci<|F3 (D:=bB) (j:=z) (sz:=34) g 2 (cZ gg f 18 rr) ci C8 rr rr ?_
  refine AQ (D:=bB) (X:=i) (j:=z) (sz:=34) (off:=2) (m:=32) g (0#32,0#32,(fun _=>0#8)) (fun b x=> [p8 32 x.2.2]) (cZ gg f 18 rr) rr rr ci rr (by decide) (fun _ _=>rr) ba fun jp kk kw h1=>?_
  refine aD rr rr<|aa.nilCheck rr rr<|bm fx rr rr<|bO g rr rr (.cons 0 rr (.cons 1 rr (.cons 2 rr (.cons 3 rr (.cons 4 rr (.cons 5 rr (.cons 6 rr (.cons 7 rr (.cons 8 rr (.cons 9 rr (.cons 10 rr (.cons 11 rr (.cons 12 rr (.cons 13 rr (.cons 14 rr (.cons 15 rr (.cons 16 rr .nil))))))))))))))))) (by kernel_rfl)<|aD rr rr<|aa.nilCheck rr rr<|aa.fieldAddr 350 e7 rr rr<|bO g rr rr (.cons 25 rr (.cons 26 rr (.cons 27 rr (.cons 28 rr (.cons 29 rr .nil))))) ei ?_
  refine aE rr rr<|aE rr rr ?_
  obtain ⟨lc,id,d⟩:=d
  refine dm se (sy (d6.app [_,_,_,_,_,_,_,_,_,_,_,_,_,_,_,_,_,_,_,_,_,_,_,_,_,_,_,_,_,_,_,_]) id g) ?_
  rintro _ ld ⟨le,li,lm,lo,ls,rfl,f8,f9⟩
  obtain rfl:=f9.hl
  refine ⟨_,rr,_,_,_,_,f8,(by exact (av.mix _ (aH.drop rr (aH.drop rr (aH.keep rr (aH.keep rr aH.nil)))) (ae.cons 19 h1 (ae.cons 18 rr ae.nil)))),?_⟩
  obtain ⟨ii,cl,io,d⟩:=d
  refine dm vQ (x1 (iG1:=iG1+33) g6 (iG2:=iG2+33) g7 (by exact (f9.bx 0 rr)) (d1.app [_,_,_,_,_,_,_,_,_,_,_,_,_,_,_,_,_,_,_,_,_,_,_,_,_,_,_,_,_,_,_,_,_]) io f8) ?_
  rintro _ ec ⟨ip,is,lt,it,i0,rfl,E,co⟩
  try dsimp only at co
  obtain rfl:=co.hl
  refine ⟨_,rr,_,_,_,_,E,(by exact (av.mix _ (aH.drop rr (aH.keep rr aH.nil)) (ae.cons 19 rr ae.nil))),?_⟩
  refine bK rr rr<|dh rr rr rr<|b' rr rr rr<|aV rr rr<|ak rr rr<|aa.fin f7 ?_;clear f7
  refine ad fun _ f'=>ad fun _ gc=>?_
  refine ag 2 3 ?_
  refine aj rr rr<|aR (a:=(((cl:Nat):Int):Int)) (b:=(0:Int)) (p:=cl≠0) rr rr rr rr cm<|aa.fin gc ?_;clear gc
  by_cases F:cl≠0
  ·
   replace d:=aA d F
   refine aG (congrArg Value.bool (decide_eq_true F)) ?_
   refine ad fun _ gd=>ag 3 7 ?_
   refine aj rr rr<|aV rr rr<|ak rr rr<|aa.fin gd ?_;clear gd
   refine W.ret (a' (aB ?_))
   have i1:=E.cN
   have ge:=St.aF (C:= [_,_,_,_,_,_,_,_,_,_,_,_,_,_,_,_,_,_,_,_,_,_,_,_,_,_,_,_,_,_,_,_,_,_,_]) i1 [0,3,4,5,6,7,8,9,10,11,12,13,14,15,16,17,18,19,20,21,22,23,24,25,26,27,28,29,30,31,32,33,34] (by decide)
   simp only [pick,aL,aK,aM,aJ,ah,ai] at ge
   subst r
   refine ax.mk (.bD rr (.bj rr .nil)) ?_
   exact ⟨none,none,0,0,(fun _=>0#8),s,t,i.length,k,u,n,o,l.length,h,q,rr,ge,Ow.nil,f,v⟩
  ·
   replace d:=az d F
   refine aO (congrArg Value.bool (decide_eq_false F)) ?_
   refine W.skip ?_
   refine f' _ _ ?_;clear f'
   refine ad fun _ go=>ag 12 1791 ?_
   refine aD rr rr<|aD rr rr<|aa.nilCheck rr rr<|aa.fieldAddr 343 gM rr rr<|aX E 19 rr rr rr (by omega) hr<|aj rr rr<|aj rr rr ?_
   obtain ⟨lw,d⟩:=d
   refine bu (a:=z) (b:=1) rr rr rr (by omega) ?_
   have gs:=St.aF (C:= [_,_,_,_,_,_,_,_,_,_,_,_,_,_,_,_,_,_,_,_,_,_,_,_,_,_,_,_,_,_,_,_,_,_]) E [20,0,1,2,3,4,5,6,7,8,9,10,11,12,13,14,15,16,17,18,19,21,22,23,24,25,26,27,28,29,30,31,32,33] (by decide)
   simp only [pick,aL,aK,aM,aJ,ah,ai] at gs
   obtain ⟨i2,i3,d⟩:=d
   refine aw EX (Gr (by exact f) i3 gs) ?_
   rintro _ md ⟨i4,i5,mp,i6,i7,rfl,i8,gt⟩
   obtain rfl:=gt.hl
   refine ⟨_,rr,.inr ⟨rr,?_⟩⟩
   refine aa.nilCheck rr rr<|aa.fieldAddr 343 gM rr rr ?_
   refine hY i8 20 rr rr rr rr rr r3 rr fun ms g0=>?_
   simp only [ah,ai,aq,ar] at g0
   refine aa.fin go ?_;clear go
   refine ad fun _ g2=>ag 3 7 ?_
   refine aE rr rr<|aV rr rr<|ak rr rr<|aa.fin g2 ?_;clear g2
   refine W.ret (aB ?_)
   have g3:=St.aF (C:= [_,_,_,_,_,_,_,_,_,_,_,_,_,_,_,_,_,_,_,_,_,_,_,_,_,_,_,_,_,_,_,_,_,_]) g0 [1,3,4,5,6,7,8,9,10,11,12,13,14,15,16,17,18,19,20,0,21,22,23,24,25,26,27,28,29,30,31,32,33] (by decide)
   simp only [pick,aL,aK,aM,aJ,ah,ai] at g3
   subst r
   refine ax.mk (.bD rr (.bj rr .nil)) ?_
   exact ⟨ip,is,ii.length,it,i0,i4,i5,i2.length,i6,i7,n,o,l.length,h,q,rr,g3,co,gt,v⟩
 ·
  replace d:=az d A
  refine aG (congrArg Value.bool (congrArg Bool.not (Bool.eq_false_iff.2 A))) ?_
  refine ad fun _ g5=>ag 2 3 ?_
  refine aV rr rr<|ak rr rr<|aa.fin g5 ?_;clear g5
  refine W.ret (a' (aB ?_))
  have i9:=f4.cN
  subst r
  refine ax.mk (.bD rr (.bj rr .nil)) ?_
  exact ⟨none,none,0,0,(fun _=>0#8),s,t,i.length,k,u,n,o,l.length,h,q,rr,i9,Ow.nil,f,v⟩
set_option maxRecDepth 8000 in
set_option maxHeartbeats 16000000 in
theorem AL {B:Nat} {w0:aC} {w:World} {L:List Rg} {c:Nat} {P Q R S M T U:K8} {H f V i Z am:U4} {ap a0:K8} {a2:U4} {a3:K8} {t:aZ} {u:Option Addr} {x:Option Nat} {ge m:Nat} {y:Nat→Value} (I:LO bB [] u x ge m y t) {a5 a9 z be bi:Int} {n:U4} {N:K8} {k:U4} {K:K8} {j g:U4} {o:bb} {E:Option Addr} {F:Option Nat} {go s:Nat} {G:Nat→Value} (J:LO cx [] E F go s G o) {r:(Nat×(aZ)×(bb))} (d:nx P Q R S M T U H f V i Z am ap a0 a2 a3 t a5 a9 z be bi n N k K j g o r) (ro:St B w0 (g8 c 0 16 P::g8 c 16 32 Q::g8 c 48 32 R::g8 c 80 32 S::g8 c 112 32 M::g8 c 144 32 T::g8 c 176 32 U::g4 c 208 H::g4 c 209 f::g4 c 210 V::g4 c 211 i::g4 c 212 Z::g4 c 213 am::g8 c 214 32 ap::g8 c 246 32 a0::g4 c 278 a2::g8 c 279 64 a3::g1 c 343 (.slice u ge m)::gL x (m*34) y::g1 c 344 (.int .i64 a5)::g1 c 345 (.int .i64 a9)::g1 c 346 (.int .i64 z)::g1 c 347 (.int .i64 be)::g1 c 348 (.int .i64 bi)::g4 c 349 n::g8 c 350 16 N::g4 c 366 k::g8 c 367 32 K::g4 c 399 j::g4 c 400 g::g1 c 401 (.slice E go s)::gL F (s*3) G::L) w):
  Calls Tryz.prog 61 #[pt c 0] w fun e w'=>∃gs:Option Addr,∃gt:Option Nat,∃g0 fd:Nat,∃g2:Nat→Value,∃g3:Option Addr,∃g5:Option Nat,∃g6 fn:Nat,∃g7:Nat→Value,e= .returned (VN r.1)∧St B w0 (g8 c 0 16 P::g8 c 16 32 Q::g8 c 48 32 R::g8 c 80 32 S::g8 c 112 32 M::g8 c 144 32 T::g8 c 176 32 U::g4 c 208 H::g4 c 209 f::g4 c 210 V::g4 c 211 i::g4 c 212 Z::g4 c 213 am::g8 c 214 32 ap::g8 c 246 32 a0::g4 c 278 a2::g8 c 279 64 a3::g1 c 343 (.slice gs g0 fd)::gL gt (fd*34) g2::g1 c 344 (.int .i64 a5)::g1 c 345 (.int .i64 a9)::g1 c 346 (.int .i64 z)::g1 c 347 (.int .i64 be)::g1 c 348 (.int .i64 bi)::g4 c 349 n::g8 c 350 16 N::g4 c 366 k::g8 c 367 32 K::g4 c 399 j::g4 c 400 g::g1 c 401 (.slice g3 g6 fn)::gL g5 (fn*3) g7::L) w'∧LO bB [] gs gt g0 fd g2 r.2.1∧LO cx [] g3 g5 g6 fn g7 r.2.2:=by
 refine W.enter 167 Tryz.func61 rr rr rr ?_
 unfold nx at d
 have rs:=I.hl;subst rs
 have rt:=J.hl;subst rt
 refine ad fun _ g9=>ag 1 1 ?_
 refine ak rr rr<|aa.fin g9 ?_;clear g9
 refine ad fun _ he=>?_
 refine fy (B:=B) (L:=L) a7 [⟨13,3,35,[p8 16 (fun _=>0#8),p8 32 (fun _=>0#8),p8 32 (fun _=>0#8),p8 32 (fun _=>0#8),p8 32 (fun _=>0#8),p8 32 (fun _=>0#8),p8 32 (fun _=>0#8),p4 (0#32),p4 (0#32),p4 (0#32),p4 (0#32),p4 (0#32),p4 (0#32),p8 32 (fun _=>0#8),p8 32 (fun _=>0#8),p4 (0#32),p8 64 (fun _=>0#8)]⟩,⟨14,4,43,[p8 16 (fun _=>0#8),p4 (0#32),p8 32 (fun _=>0#8),p4 (0#32),p4 (0#32)]⟩] (dg [1,3,5,7,9,11,13,15,17,19,21,23,25]) [] (dg [30,32,35]) (by kernel_rfl) (by kernel_rfl) (.cons eu (.cons ik .nil)) ?_
 have ce:=ro.drew
 refine aD rr rr<|aa.nilCheck rr rr<|bm fx rr rr<|bO ce rr rr (.cons 0 rr (.cons 1 rr (.cons 2 rr (.cons 3 rr (.cons 4 rr (.cons 5 rr (.cons 6 rr (.cons 7 rr (.cons 8 rr (.cons 9 rr (.cons 10 rr (.cons 11 rr (.cons 12 rr (.cons 13 rr (.cons 14 rr (.cons 15 rr (.cons 16 rr .nil))))))))))))))))) (by kernel_rfl)<|aD rr rr<|aa.nilCheck rr rr<|aa.fieldAddr 350 e7 rr rr<|bO ce rr rr (.cons 25 rr (.cons 26 rr (.cons 27 rr (.cons 28 rr (.cons 29 rr .nil))))) ei ?_
 refine aD rr rr<|aa.nilCheck rr rr<|aa.fieldAddr 344 j1 rr rr<|aa.fieldAddr 2 r9 rr rr<|aX ce 21 rr rr rr (by omega) ed ?_
 refine aa.nil ⟨_,[_,_,_,_,_,_,_,_,_,_,_,_,_,_,_,_,_,_,_,_,_,_,_,_,_,_,_,_,_,_,_,_],ce,(ae.cons 21 rr (ae.parts (.cons 25 rr (.cons 26 rr (.cons 27 rr (.cons 28 rr (.cons 29 rr .nil))))) (ae.parts (.cons 0 rr (.cons 1 rr (.cons 2 rr (.cons 3 rr (.cons 4 rr (.cons 5 rr (.cons 6 rr (.cons 7 rr (.cons 8 rr (.cons 9 rr (.cons 10 rr (.cons 11 rr (.cons 12 rr (.cons 13 rr (.cons 14 rr (.cons 15 rr (.cons 16 rr .nil))))))))))))))))) ae.nil))),?_⟩
 refine PX.done (KE.step fun l=>(KE.step fun A=>(KE.fin fun t7 hi=>?_)))
 simp only [ao,Nat.zero_add,Nat.reduceAdd,ah,ai] at hi
 refine bA (ps:= [p8 16 P,p8 32 Q,p8 32 R,p8 32 S,p8 32 M,p8 32 T,p8 32 U,p4 H,p4 f,p4 V,p4 i,p4 Z,p4 am,p8 32 ap,p8 32 a0,p4 a2,p8 64 a3]) hi rr rr rr (cj.run 32) ⟨fun _ _=>rr,fun _ _=>rr,fun _ _=>rr,fun _ _=>rr,fun _ _=>rr,fun _ _=>rr,fun _ _=>rr,fun _ _=>rr,fun _ _=>rr,fun _ _=>rr,fun _ _=>rr,fun _ _=>rr,fun _ _=>rr,fun _ _=>rr,fun _ _=>rr,fun _ _=>rr,fun _ _=>rr,trivial⟩ (by kernel_rfl) (av.mix _ (aH.keep rr (aH.keep rr (aH.drop rr aH.nil))) (ae.cons 21 rr (ae.parts (.cons 25 rr (.cons 26 rr (.cons 27 rr (.cons 28 rr (.cons 29 rr .nil))))) ae.nil))) fun t8 hk=>?_
 simp only [ao,List.take_succ_cons,List.take_zero,List.drop_succ_cons,List.drop_zero,List.length_cons,List.length_nil,Nat.zero_add,Nat.reduceAdd,List.cons_append,List.nil_append] at hk
 refine bA (ps:= [p8 16 N,p4 k,p8 32 K,p4 j,p4 g]) hk rr rr rr (.cons 49 rr (.cons 50 rr (.cons 51 rr (.cons 52 rr (.cons 53 rr .nil))))) ⟨fun _ _=>rr,fun _ _=>rr,fun _ _=>rr,fun _ _=>rr,fun _ _=>rr,trivial⟩ iw (av.mix _ (aH.keep rr (aH.drop rr aH.nil)) (ae.cons 21 rr ae.nil)) fun t9 hm=>?_
 simp only [ah,ai,aq,ar] at hm
 refine ak rr rr<|aa.fin he ?_;clear he
 refine ad fun _ hu=>?_
 refine bd a7 [1,3,5,7,9,11,13,15] ?_
 have bv:=hm.drew
 refine aa.fieldAddr 50 gl rr rr<|aX bv 53 rr rr rr (by omega) bf<|h8 (a:=g.toNat) gX eP rr rr (Nat.lt_of_lt_of_le g.isLt (by decide))<|aa.fieldAddr 211 r8 rr rr<|aX bv 42 rr rr rr (by omega) bf<|h8 (a:=i.toNat) gX eP rr rr (Nat.lt_of_lt_of_le i.isLt (by decide))<|ak rr rr<|ak rr rr ?_
 refine aa.fin hu ?_;clear hu
 refine ad fun _ hw=>?_
 refine W.block ?_
 refine ad fun _ hH=>ag 6 63 ?_
 refine aa.fieldAddr 16 gi rr rr<|aX bv 50 rr rr rr (by omega) bf<|aa.fieldAddr 209 e8 rr rr<|aX bv 40 rr rr rr (by omega) bf<|aR (a:=(k.toNat:Int)) (b:=(f.toNat:Int)) (p:=f.toNat < k.toNat) rr rr rr rr dL<|a8 rr rr<|aa.fin hH ?_;clear hH
 by_cases ci:f.toNat < k.toNat
 ·
  replace d:=aA d ci
  refine aG (congrArg Value.bool (decide_eq_true ci)) ?_
  refine ad fun _ hO=>ag 1 1 ?_
  refine ak rr rr<|aa.fin hO ?_;clear hO
  refine W.ret (dD (a' (aB ?_)))
  have h1:=St.aF (C:= [_,_,_,_,_,_,_,_,_,_,_,_,_,_,_,_,_,_,_,_,_,_,_,_,_,_,_,_,_,_,_,_,_,_,_,_,_,_,_,_,_,_,_,_,_,_,_,_,_,_,_,_,_,_]) bv [0,1,2,3,4,5,6,7,8,9,10,11,12,13,14,15,16,17,18,19,20,21,22,23,24,25,26,27,28,29,30,31] (by decide)
  simp only [pick,aL,aK,aM,aJ,ah,ai] at h1
  subst r
  refine ax.mk (.bj rr .nil) ?_
  exact ⟨u,x,t.length,m,y,E,F,o.length,s,G,rr,h1,I,J⟩
 ·
  replace d:=az d ci
  refine aO (congrArg Value.bool (decide_eq_false ci)) ?_
  refine ad fun _ cl=>?_
  refine bd a7 [1,3,5,7,9,11,13,15,17,19,21,23,25,27,29,31,33,35,37] ?_
  have q:=bv.drew
  refine aa.fieldAddr 50 gl rr rr<|aX q 53 rr rr rr (by omega) bf<|aD rr rr<|aa.nilCheck rr rr<|aa.fieldAddr 344 j1 rr rr<|aa.fieldAddr 5 jD rr rr<|aX q 24 rr rr rr (by omega) bf ?_
  by_cases co:n.toNat≤g.toNat
  ·
   replace d:=aA d co
   refine bI (a:=(g.toNat:Int)) (b:=(n.toNat:Int)) (p:=n.toNat≤g.toNat) (v:=true) rr rr rr rr jc (decide_eq_true co)<|a_ rr rr<|al rr<|al rr<|al rr<|al rr<|al rr<|al rr ?_
   refine al rr<|al rr<|b0 rr rr rr<|a8 rr rr<|aa.fin cl ?_;clear cl
   refine aG rr ?_
   refine ad fun _ id=>ag 1 1 ?_
   refine ak rr rr<|aa.fin id ?_;clear id
   refine W.ret (dD (a' (aB ?_)))
   have ii:=St.aF (C:= [_,_,_,_,_,_,_,_,_,_,_,_,_,_,_,_,_,_,_,_,_,_,_,_,_,_,_,_,_,_,_,_,_,_,_,_,_,_,_,_,_,_,_,_,_,_,_,_,_,_,_,_,_,_]) q [0,1,2,3,4,5,6,7,8,9,10,11,12,13,14,15,16,17,18,19,20,21,22,23,24,25,26,27,28,29,30,31] (by decide)
   simp only [pick,aL,aK,aM,aJ,ah,ai] at ii
   subst r
   refine ax.mk (.bj rr .nil) ?_
   exact ⟨u,x,t.length,m,y,E,F,o.length,s,G,rr,ii,I,J⟩
  ·
   replace d:=az d co
   refine bI (a:=(g.toNat:Int)) (b:=(n.toNat:Int)) (p:=n.toNat≤g.toNat) (v:=false) rr rr rr rr jc (decide_eq_false co)<|a_ rr rr<|aa.fieldAddr 16 gi rr rr<|aX q 50 rr rr rr (by omega) bf<|aD rr rr<|aa.nilCheck rr rr<|aa.fieldAddr 344 j1 rr rr<|aa.fieldAddr 5 jD rr rr ?_
   refine aX q 24 rr rr rr (by omega) bf<|aR (a:=(k.toNat:Int)) (b:=(n.toNat:Int)) (p:=n.toNat≤k.toNat) rr rr rr rr jc<|ca rr rr rr<|a8 rr rr<|aa.fin cl ?_;clear cl
   by_cases cs:n.toNat≤k.toNat
   ·
    replace d:=aA d cs
    refine aG (congrArg Value.bool (decide_eq_true cs)) ?_
    refine ad fun _ io=>ag 1 1 ?_
    refine ak rr rr<|aa.fin io ?_;clear io
    refine W.ret (dD (a' (aB ?_)))
    have ip:=St.aF (C:= [_,_,_,_,_,_,_,_,_,_,_,_,_,_,_,_,_,_,_,_,_,_,_,_,_,_,_,_,_,_,_,_,_,_,_,_,_,_,_,_,_,_,_,_,_,_,_,_,_,_,_,_,_,_]) q [0,1,2,3,4,5,6,7,8,9,10,11,12,13,14,15,16,17,18,19,20,21,22,23,24,25,26,27,28,29,30,31] (by decide)
    simp only [pick,aL,aK,aM,aJ,ah,ai] at ip
    subst r
    refine ax.mk (.bj rr .nil) ?_
    exact ⟨u,x,t.length,m,y,E,F,o.length,s,G,rr,ip,I,J⟩
   ·
    replace d:=az d cs
    refine aO (congrArg Value.bool (decide_eq_false cs)) ?_
    refine W.skip ?_
    refine bo ?_
    refine hw _ _ ?_;clear hw
    refine ad fun _ is=>ad fun _ it=>?_
    refine ag 5 31 ?_
    refine aa.fieldAddr 16 gi rr rr<|aX q 50 rr rr rr (by omega) bf<|aa.fieldAddr 209 e8 rr rr<|aX q 40 rr rr rr (by omega) bf<|aR (a:=(k.toNat:Int)) (b:=(f.toNat:Int)) (p:=k≠f) rr rr rr rr eV<|aa.fin it ?_;clear it
    by_cases c1:k≠f
    ·
     replace d:=aA d c1
     refine aG (congrArg Value.bool (decide_eq_true c1)) ?_
     refine ad fun _ i0=>?_
     refine W.block ?_
     refine ad fun _ i1=>ag 6 63 ?_
     refine aa.fieldAddr 17 l_ rr rr<|aP q 51 rr rr rr ba<|aa.fieldAddr 112 wL rr rr<|aP q 36 rr rr rr ba<|s0 (b:=(c9 32 K M)) xY rr rr rr rr<|a8 rr rr<|aa.fin i1 ?_;clear i1
     by_cases c2:(c9 32 K M)=true
     ·
      replace d:=aA d c2
      refine aO (congrArg Value.bool (congrArg Bool.not c2)) ?_
      refine ad fun _ i2=>ag 6 63 ?_
      refine aj rr rr<|aj rr rr<|d' (a:=((g.toNat:Nat):Int)) (b:=((i.toNat:Nat):Int)) rr rr rr (by omega)<|aj rr rr<|aR (a:=((((g.toNat:Nat):Int) - ((i.toNat:Nat):Int)):Int)) (b:=(z:Int)) (p:=z < (((g.toNat:Nat):Int) - ((i.toNat:Nat):Int))) rr rr rr rr fw<|a8 rr rr<|aa.fin i2 ?_;clear i2
      by_cases dl:z < (((g.toNat:Nat):Int) - ((i.toNat:Nat):Int))
      ·
       replace d:=aA d dl
       refine aG (congrArg Value.bool (decide_eq_true dl)) ?_
       refine ad fun _ i3=>ag 1 1 ?_
       refine ak rr rr<|aa.fin i3 ?_;clear i3
       refine W.ret (dD (a' (a' (aB ?_))))
       have i4:=St.aF (C:= [_,_,_,_,_,_,_,_,_,_,_,_,_,_,_,_,_,_,_,_,_,_,_,_,_,_,_,_,_,_,_,_,_,_,_,_,_,_,_,_,_,_,_,_,_,_,_,_,_,_,_,_,_,_]) q [0,1,2,3,4,5,6,7,8,9,10,11,12,13,14,15,16,17,18,19,20,21,22,23,24,25,26,27,28,29,30,31] (by decide)
       simp only [pick,aL,aK,aM,aJ,ah,ai] at i4
       subst r
       refine ax.mk (.bj rr .nil) ?_
       exact ⟨u,x,t.length,m,y,E,F,o.length,s,G,rr,i4,I,J⟩
      ·
       replace d:=az d dl
       refine aO (congrArg Value.bool (decide_eq_false dl)) ?_
       refine W.skip ?_
       refine bo ?_
       refine i0 _ _ ?_;clear i0
       refine ad fun _ i5=>ag 10 447 ?_
       refine aD rr rr<|aa.fieldAddr 16 gi rr rr<|aX q 50 rr rr rr (by omega) bf<|aj rr rr<|aj rr rr ?_
       refine dt (ps:= [p4 k,p1 (VN i.toNat),p1 (VN g.toNat)]) oE (by decide) j7 rr rr (.one [] [p1 (VN 0),p1 (VN 0)] (fun _=>VU .u32 (0#32)) rr rr (.one [p4 k] [p1 (VN 0)] (fun _=>VN 0) rr rr (.one [p4 k,p1 (VN i.toNat)] [] (fun _=>VN 0) rr rr .nil))) ?_
       refine iB (D:=cx) (sz:=3) q [((),(k,((i.toNat:Nat):Int),((g.toNat:Nat):Int)))] jR j5 pM (by decide) (by decide) rr rr rr rr (fun _ _=>trivial) (av.keep (ae.cons 50 rr ae.nil)) fun ds t' i6 ul f0 rx=>?_
       replace f0:LO cx [] (some ⟨ds,0,none⟩) (some ds) ([(k,((i.toNat:Nat):Int),((g.toNat:Nat):Int))]:bb).length 1 i6 ([(k,((i.toNat:Nat):Int),((g.toNat:Nat):Int))]:bb):=f0.re (fun _ _ h=>h)
       refine aa.nilCheck rr rr<|aa.fieldAddr 401 gC rr rr ?_
       refine hY rx 31 rr rr rr rr rr rh rr fun un i7=>?_
       simp only [ah,ai,aq,ar] at i7
       refine aa.fin i5 ?_;clear i5
       refine ad fun _ i8=>ag 1 1 ?_
       refine ak rr rr<|aa.fin i8 ?_;clear i8
       refine W.ret (a' (aB ?_))
       have i9:=St.aF (C:= [_,_,_,_,_,_,_,_,_,_,_,_,_,_,_,_,_,_,_,_,_,_,_,_,_,_,_,_,_,_,_,_,_,_,_,_,_,_,_,_,_,_,_,_,_,_,_,_,_,_,_,_,_,_,_]) i7 [1,2,3,4,5,6,7,8,9,10,11,12,13,14,15,16,17,18,19,20,21,22,23,24,25,26,27,28,29,30,31,0] (by decide)
       simp only [pick,aL,aK,aM,aJ,ah,ai] at i9
       subst r
       refine ax.mk (.bj rr .nil) ?_
       exact ⟨u,x,t.length,m,y,some ⟨ds,0,none⟩,some ds,([(k,((i.toNat:Nat):Int),((g.toNat:Nat):Int))]:bb).length,1,i6,rr,i9,I,f0⟩
     ·
      replace d:=az d c2
      refine aG (congrArg Value.bool (congrArg Bool.not (Bool.eq_false_iff.2 c2))) ?_
      refine ad fun _ jd=>ag 1 1 ?_
      refine ak rr rr<|aa.fin jd ?_;clear jd
      refine W.ret (dD (a' (a' (aB ?_))))
      have jp:=St.aF (C:= [_,_,_,_,_,_,_,_,_,_,_,_,_,_,_,_,_,_,_,_,_,_,_,_,_,_,_,_,_,_,_,_,_,_,_,_,_,_,_,_,_,_,_,_,_,_,_,_,_,_,_,_,_,_]) q [0,1,2,3,4,5,6,7,8,9,10,11,12,13,14,15,16,17,18,19,20,21,22,23,24,25,26,27,28,29,30,31] (by decide)
      simp only [pick,aL,aK,aM,aJ,ah,ai] at jp
      subst r
      refine ax.mk (.bj rr .nil) ?_
      exact ⟨u,x,t.length,m,y,E,F,o.length,s,G,rr,jp,I,J⟩
    ·
     replace d:=az d c1
     refine aO (congrArg Value.bool (decide_eq_false c1)) ?_
     refine W.skip ?_
     refine is _ _ ?_;clear is
     refine ad fun _ kk=>ag 4 15 ?_
     refine aa.fieldAddr 49 oj rr rr<|aX q 52 rr rr rr (by omega) bf<|h8 (a:=j.toNat) gX eP rr rr (Nat.lt_of_lt_of_le j.isLt (by decide))<|ak rr rr<|aa.fin kk ?_;clear kk
     refine ad fun _ kw=>?_
     obtain ⟨sp,st,s1⟩:=d
     refine bq (fun e w=>(sp=true)∧aU e [(0,pt c 0),(3,pt l 0),(4,pt A 0),(6,VN g.toNat),(7,VN i.toNat),(8,VN j.toNat)]∧St B w0 (g8 c 0 16 P::g8 c 16 32 Q::g8 c 48 32 R::g8 c 80 32 S::g8 c 112 32 M::g8 c 144 32 T::g8 c 176 32 U::g4 c 208 H::g4 c 209 f::g4 c 210 V::g4 c 211 i::g4 c 212 Z::g4 c 213 am::g8 c 214 32 ap::g8 c 246 32 a0::g4 c 278 a2::g8 c 279 64 a3::g1 c 343 (.slice u t.length m)::gL x (m*34) y::g1 c 344 (.int .i64 a5)::g1 c 345 (.int .i64 a9)::g1 c 346 (.int .i64 z)::g1 c 347 (.int .i64 be)::g1 c 348 (.int .i64 bi)::g4 c 349 n::g8 c 350 16 N::g4 c 366 k::g8 c 367 32 K::g4 c 399 j::g4 c 400 g::g1 c 401 (.slice E o.length s)::gL F (s*3) G::g8 l 0 16 P::g8 l 16 32 Q::g8 l 48 32 R::g8 l 80 32 S::g8 l 112 32 M::g8 l 144 32 T::g8 l 176 32 U::g4 l 208 H::g4 l 209 f::g4 l 210 V::g4 l 211 i::g4 l 212 Z::g4 l 213 am::g8 l 214 32 ap::g8 l 246 32 a0::g4 l 278 a2::g8 l 279 64 a3::g8 A 0 16 N::g4 A 16 k::g8 A 17 32 K::g4 A 49 j::g4 A 50 g::L) w) ?_ ?_
     ·
      replace d:=st
      refine W.block ?_
      refine ad fun _ d0=>ag 8 255 ?_
      refine aa.fieldAddr 209 e8 rr rr<|aX q 40 rr rr rr (by omega) bf ?_
      by_cases O:f=0#32
      ·
       replace d:=aA d O
       refine bI (a:=(f.toNat:Int)) (b:=((0#32).toNat:Int)) (p:=f=0#32) (v:=true) rr rr rr rr ih (decide_eq_true O)<|a_ rr rr<|aj rr rr<|aR (a:=(((j.toNat:Nat):Int):Int)) (b:=(0:Int)) (p:=j.toNat≠0) rr rr rr rr cm<|b0 rr rr rr<|a8 rr rr<|aa.fin d0 ?_;clear d0
       by_cases d1:j.toNat≠0
       ·
        replace d:=aA d d1
        refine aG (congrArg Value.bool (decide_eq_true d1)) ?_
        refine ad fun _ lc=>ag 1 1 ?_
        refine ak rr rr<|aa.fin lc ?_;clear lc
        refine W.ret (dD (a' (a' (aB ?_))))
        have ld:=St.aF (C:= [_,_,_,_,_,_,_,_,_,_,_,_,_,_,_,_,_,_,_,_,_,_,_,_,_,_,_,_,_,_,_,_,_,_,_,_,_,_,_,_,_,_,_,_,_,_,_,_,_,_,_,_,_,_]) q [0,1,2,3,4,5,6,7,8,9,10,11,12,13,14,15,16,17,18,19,20,21,22,23,24,25,26,27,28,29,30,31] (by decide)
        simp only [pick,aL,aK,aM,aJ,ah,ai] at ld
        replace d:=d.2
        subst r
        refine ax.mk (.bj rr .nil) ?_
        exact ⟨u,x,t.length,m,y,E,F,o.length,s,G,rr,ld,I,J⟩
       ·
        replace d:=az d d1
        refine aO (congrArg Value.bool (decide_eq_false d1)) ?_
        refine ad fun _ le=>ag 9 511 ?_
        refine aa.fieldAddr 209 e8 rr rr<|aX q 40 rr rr rr (by omega) bf<|bI (a:=(f.toNat:Int)) (b:=((0#32).toNat:Int)) (p:=(0#32).toNat < f.toNat) (v:=false) rr rr rr rr dL (decide_eq_false (by rw [O];exact Nat.lt_irrefl _))<|a_ rr rr<|al rr<|al rr<|al rr<|ca rr rr rr ?_
        refine a8 rr rr<|aa.fin le ?_;clear le
        refine aO rr ?_
        refine ad fun _ li=>?_
        refine bd a7 [1,3,5,7,9,11,13,15,17,19,21,23,25,27] ?_
        have d2:=q.drew
        refine aa.fieldAddr 209 e8 rr rr<|aX d2 40 rr rr rr (by omega) bf<|bI (a:=(f.toNat:Int)) (b:=((0#32).toNat:Int)) (p:=(0#32).toNat < f.toNat) (v:=false) rr rr rr rr dL (decide_eq_false (by rw [O];exact Nat.lt_irrefl _))<|a_ rr rr<|al rr<|al rr<|al rr<|al rr ?_
        refine al rr<|al rr<|al rr<|al rr<|ca rr rr rr<|a8 rr rr<|aa.fin li ?_;clear li
        refine aO rr ?_
        refine ad fun _ lm=>ad fun _ lo=>?_
        refine ag 11 2047 ?_
        refine aa.fieldAddr 209 e8 rr rr<|aX d2 40 rr rr rr (by omega) bf<|bI (a:=(f.toNat:Int)) (b:=((0#32).toNat:Int)) (p:=(0#32).toNat < f.toNat) (v:=false) rr rr rr rr dL (decide_eq_false (by rw [O];exact Nat.lt_irrefl _))<|a_ rr rr<|al rr<|al rr<|al rr<|al rr ?_
        refine al rr<|ca rr rr rr<|a8 rr rr<|aa.fin lo ?_;clear lo
        refine aO rr ?_
        refine ag 4 15 ?_
        refine aj rr rr<|aj rr rr<|aR (a:=(((g.toNat:Nat):Int):Int)) (b:=(z:Int)) (p:=z < ((g.toNat:Nat):Int)) rr rr rr rr fw<|a8 rr rr<|aa.fin lm ?_;clear lm
        by_cases d3:z < ((g.toNat:Nat):Int)
        ·
         replace d:=aA d d3
         refine aG (congrArg Value.bool (decide_eq_true d3)) ?_
         refine ad fun _ ls=>ag 1 1 ?_
         refine ak rr rr<|aa.fin ls ?_;clear ls
         refine W.ret (dD (a' (a' (aB ?_))))
         have lt:=St.aF (C:= [_,_,_,_,_,_,_,_,_,_,_,_,_,_,_,_,_,_,_,_,_,_,_,_,_,_,_,_,_,_,_,_,_,_,_,_,_,_,_,_,_,_,_,_,_,_,_,_,_,_,_,_,_,_]) d2 [0,1,2,3,4,5,6,7,8,9,10,11,12,13,14,15,16,17,18,19,20,21,22,23,24,25,26,27,28,29,30,31] (by decide)
         simp only [pick,aL,aK,aM,aJ,ah,ai] at lt
         replace d:=d.2
         subst r
         refine ax.mk (.bj rr .nil) ?_
         exact ⟨u,x,t.length,m,y,E,F,o.length,s,G,rr,lt,I,J⟩
        ·
         replace d:=az d d3
         refine aO (congrArg Value.bool (decide_eq_false d3)) ?_
         refine ad fun _ lw=>?_
         refine bd a7 [1,3,5,7,9,11,13,15,17] ?_
         have d4:=d2.drew
         refine aa.fieldAddr 208 gz rr rr<|aX d4 39 rr rr rr (by omega) bf<|aD rr rr<|aa.nilCheck rr rr<|aa.fieldAddr 344 j1 rr rr<|aa.fieldAddr 5 jD rr rr<|aX d4 24 rr rr rr (by omega) bf<|aR (a:=(H.toNat:Int)) (b:=(n.toNat:Int)) (p:=n.toNat≤H.toNat) rr rr rr rr jc ?_
         refine a8 rr rr<|aa.fin lw ?_;clear lw
         by_cases d5:n.toNat≤H.toNat
         ·
          replace d:=aA d d5
          refine aG (congrArg Value.bool (decide_eq_true d5)) ?_
          refine ad fun _ md=>ag 1 1 ?_
          refine ak rr rr<|aa.fin md ?_;clear md
          refine W.ret (dD (a' (a' (aB ?_))))
          have mp:=St.aF (C:= [_,_,_,_,_,_,_,_,_,_,_,_,_,_,_,_,_,_,_,_,_,_,_,_,_,_,_,_,_,_,_,_,_,_,_,_,_,_,_,_,_,_,_,_,_,_,_,_,_,_,_,_,_,_]) d4 [0,1,2,3,4,5,6,7,8,9,10,11,12,13,14,15,16,17,18,19,20,21,22,23,24,25,26,27,28,29,30,31] (by decide)
          simp only [pick,aL,aK,aM,aJ,ah,ai] at mp
          replace d:=d.2
          subst r
          refine ax.mk (.bj rr .nil) ?_
          exact ⟨u,x,t.length,m,y,E,F,o.length,s,G,rr,mp,I,J⟩
         ·
          replace d:=az d d5
          refine aO (congrArg Value.bool (decide_eq_false d5)) ?_
          refine W.skip ?_
          refine bo ?_
          exact ⟨d,(ab (ab (ab (ab (ab (ab au)))))),d4⟩
      ·
       replace d:=az d O
       refine bI (a:=(f.toNat:Int)) (b:=((0#32).toNat:Int)) (p:=f=0#32) (v:=false) rr rr rr rr ih (decide_eq_false O)<|a_ rr rr<|al rr<|al rr<|ca rr rr rr<|a8 rr rr<|aa.fin d0 ?_;clear d0
       refine aO rr ?_
       refine ad fun _ ms=>ag 9 511 ?_
       refine aa.fieldAddr 209 e8 rr rr<|aX q 40 rr rr rr (by omega) bf ?_
       refine bI (a:=(f.toNat:Int)) (b:=((0#32).toNat:Int)) (p:=(0#32).toNat < f.toNat) (v:=true) rr rr rr rr dL (decide_eq_true (Nat.pos_of_ne_zero fun cd=>O (BitVec.eq_of_toNat_eq cd))) ?_
       refine a_ rr rr<|aj rr rr<|aj rr rr<|aR (a:=(((j.toNat:Nat):Int):Int)) (b:=(((i.toNat:Nat):Int):Int)) (p:=j.toNat < i.toNat) rr rr rr rr bW<|b0 rr rr rr<|a8 rr rr<|aa.fin ms ?_;clear ms
       by_cases d6:j.toNat < i.toNat
       ·
        replace d:=aA d d6
        refine aG (congrArg Value.bool (decide_eq_true d6)) ?_
        refine ad fun _ mt=>ag 1 1 ?_
        refine ak rr rr<|aa.fin mt ?_;clear mt
        refine W.ret (dD (a' (a' (aB ?_))))
        have m0:=St.aF (C:= [_,_,_,_,_,_,_,_,_,_,_,_,_,_,_,_,_,_,_,_,_,_,_,_,_,_,_,_,_,_,_,_,_,_,_,_,_,_,_,_,_,_,_,_,_,_,_,_,_,_,_,_,_,_]) q [0,1,2,3,4,5,6,7,8,9,10,11,12,13,14,15,16,17,18,19,20,21,22,23,24,25,26,27,28,29,30,31] (by decide)
        simp only [pick,aL,aK,aM,aJ,ah,ai] at m0
        replace d:=d.2
        subst r
        refine ax.mk (.bj rr .nil) ?_
        exact ⟨u,x,t.length,m,y,E,F,o.length,s,G,rr,m0,I,J⟩
       ·
        replace d:=az d d6
        refine aO (congrArg Value.bool (decide_eq_false d6)) ?_
        refine ad fun _ m1=>?_
        refine bd a7 [1,3,5,7,9,11,13,15,17,19,21,23,25,27] ?_
        have a4:=q.drew
        refine aa.fieldAddr 209 e8 rr rr<|aX a4 40 rr rr rr (by omega) bf ?_
        refine bI (a:=(f.toNat:Int)) (b:=((0#32).toNat:Int)) (p:=(0#32).toNat < f.toNat) (v:=true) rr rr rr rr dL (decide_eq_true (Nat.pos_of_ne_zero fun cd=>O (BitVec.eq_of_toNat_eq cd))) ?_
        refine a_ rr rr<|aa.fieldAddr 49 oj rr rr<|aX a4 52 rr rr rr (by omega) bf<|aD rr rr<|aa.nilCheck rr rr<|aa.fieldAddr 344 j1 rr rr<|aa.fieldAddr 5 jD rr rr<|aX a4 24 rr rr rr (by omega) bf ?_
        refine aR (a:=(j.toNat:Int)) (b:=(n.toNat:Int)) (p:=n.toNat < j.toNat) rr rr rr rr dL<|b0 rr rr rr<|a8 rr rr<|aa.fin m1 ?_;clear m1
        by_cases d7:n.toNat < j.toNat
        ·
         replace d:=aA d d7
         refine aG (congrArg Value.bool (decide_eq_true d7)) ?_
         refine ad fun _ m2=>ag 1 1 ?_
         refine ak rr rr<|aa.fin m2 ?_;clear m2
         refine W.ret (dD (a' (a' (aB ?_))))
         have m3:=St.aF (C:= [_,_,_,_,_,_,_,_,_,_,_,_,_,_,_,_,_,_,_,_,_,_,_,_,_,_,_,_,_,_,_,_,_,_,_,_,_,_,_,_,_,_,_,_,_,_,_,_,_,_,_,_,_,_]) a4 [0,1,2,3,4,5,6,7,8,9,10,11,12,13,14,15,16,17,18,19,20,21,22,23,24,25,26,27,28,29,30,31] (by decide)
         simp only [pick,aL,aK,aM,aJ,ah,ai] at m3
         replace d:=d.2
         subst r
         refine ax.mk (.bj rr .nil) ?_
         exact ⟨u,x,t.length,m,y,E,F,o.length,s,G,rr,m3,I,J⟩
        ·
         replace d:=az d d7
         refine aO (congrArg Value.bool (decide_eq_false d7)) ?_
         refine ad fun _ m4=>?_
         obtain ⟨t151,s2,s3⟩:=d
         refine bq (fun e w=>∃f1:Bool,(t151=f1)∧aU e [(0,pt c 0),(3,pt l 0),(4,pt A 0),(6,VN g.toNat),(7,VN i.toNat),(8,VN j.toNat),(113,.bool f1)]∧St B w0 (g8 c 0 16 P::g8 c 16 32 Q::g8 c 48 32 R::g8 c 80 32 S::g8 c 112 32 M::g8 c 144 32 T::g8 c 176 32 U::g4 c 208 H::g4 c 209 f::g4 c 210 V::g4 c 211 i::g4 c 212 Z::g4 c 213 am::g8 c 214 32 ap::g8 c 246 32 a0::g4 c 278 a2::g8 c 279 64 a3::g1 c 343 (.slice u t.length m)::gL x (m*34) y::g1 c 344 (.int .i64 a5)::g1 c 345 (.int .i64 a9)::g1 c 346 (.int .i64 z)::g1 c 347 (.int .i64 be)::g1 c 348 (.int .i64 bi)::g4 c 349 n::g8 c 350 16 N::g4 c 366 k::g8 c 367 32 K::g4 c 399 j::g4 c 400 g::g1 c 401 (.slice E o.length s)::gL F (s*3) G::g8 l 0 16 P::g8 l 16 32 Q::g8 l 48 32 R::g8 l 80 32 S::g8 l 112 32 M::g8 l 144 32 T::g8 l 176 32 U::g4 l 208 H::g4 l 209 f::g4 l 210 V::g4 l 211 i::g4 l 212 Z::g4 l 213 am::g8 l 214 32 ap::g8 l 246 32 a0::g4 l 278 a2::g8 l 279 64 a3::g8 A 0 16 N::g4 A 16 k::g8 A 17 32 K::g4 A 49 j::g4 A 50 g::L) w) ?_ ?_
         ·
          replace d:=s2
          refine ad fun _ m5=>ag 11 2047 ?_
          refine aa.fieldAddr 209 e8 rr rr<|aX a4 40 rr rr rr (by omega) bf ?_
          refine bI (a:=(f.toNat:Int)) (b:=((0#32).toNat:Int)) (p:=(0#32).toNat < f.toNat) (v:=true) rr rr rr rr dL (decide_eq_true (Nat.pos_of_ne_zero fun cd=>O (BitVec.eq_of_toNat_eq cd))) ?_
          refine a_ rr rr<|aj rr rr<|aj rr rr<|d' (a:=((j.toNat:Nat):Int)) (b:=((i.toNat:Nat):Int)) rr rr rr (by omega)<|aj rr rr<|aR (a:=((((j.toNat:Nat):Int) - ((i.toNat:Nat):Int)):Int)) (b:=(z:Int)) (p:=z < (((j.toNat:Nat):Int) - ((i.toNat:Nat):Int))) rr rr rr rr fw<|b0 rr rr rr<|a8 rr rr ?_
          refine aa.fin m5 ?_;clear m5
          by_cases d8:z < (((j.toNat:Nat):Int) - ((i.toNat:Nat):Int))
          ·
           replace d:=aA d d8
           refine aG (congrArg Value.bool (decide_eq_true d8)) ?_
           refine W.skip ?_
           exact ⟨(decide (z < (((j.toNat:Nat):Int) - ((i.toNat:Nat):Int)))),d,(ab (ab (ab (ab (ab (ab (ab au))))))),a4⟩
          ·
           replace d:=az d d8
           refine aO (congrArg Value.bool (decide_eq_false d8)) ?_
           refine ag 4 15 ?_
           refine aj rr rr<|aj rr rr<|aR (a:=(((g.toNat:Nat):Int):Int)) (b:=(z:Int)) (p:=z < ((g.toNat:Nat):Int)) rr rr rr rr fw<|a8 rr rr<|aa.nil ?_
           exact ⟨(decide (z < ((g.toNat:Nat):Int))),d,(ab (ab (ab (ab (ab (ab (ab au))))))),a4⟩
         ·
          rintro s4 up ⟨f1,s5,s6,m6⟩
          subst s5
          obtain ⟨s4,rfl⟩:=s6.open
          replace d:=s3
          refine m4 _ _ ?_;clear m4
          by_cases d9:t151=true
          ·
           replace d:=aA d d9
           refine aG (congrArg Value.bool d9) ?_
           refine ad fun _ m7=>ag 1 1 ?_
           refine ak rr rr<|aa.fin m7 ?_;clear m7
           refine W.ret (dD (a' (a' (aB ?_))))
           have m8:=St.aF (C:= [_,_,_,_,_,_,_,_,_,_,_,_,_,_,_,_,_,_,_,_,_,_,_,_,_,_,_,_,_,_,_,_,_,_,_,_,_,_,_,_,_,_,_,_,_,_,_,_,_,_,_,_,_,_]) m6 [0,1,2,3,4,5,6,7,8,9,10,11,12,13,14,15,16,17,18,19,20,21,22,23,24,25,26,27,28,29,30,31] (by decide)
           simp only [pick,aL,aK,aM,aJ,ah,ai] at m8
           replace d:=d.2
           subst r
           refine ax.mk (.bj rr .nil) ?_
           exact ⟨u,x,t.length,m,y,E,F,o.length,s,G,rr,m8,I,J⟩
          ·
           replace d:=az d d9
           refine aO (congrArg Value.bool (Bool.eq_false_iff.2 d9)) ?_
           refine ad fun _ m9=>?_
           refine bd a7 [1,3,5,7,9,11,13,15,17] ?_
           have el:=m6.drew
           refine aa.fieldAddr 208 gz rr rr<|aX el 39 rr rr rr (by omega) bf<|aD rr rr<|aa.nilCheck rr rr<|aa.fieldAddr 344 j1 rr rr<|aa.fieldAddr 5 jD rr rr<|aX el 24 rr rr rr (by omega) bf<|aR (a:=(H.toNat:Int)) (b:=(n.toNat:Int)) (p:=n.toNat≤H.toNat) rr rr rr rr jc ?_
           refine a8 rr rr<|aa.fin m9 ?_;clear m9
           by_cases em:n.toNat≤H.toNat
           ·
            replace d:=aA d em
            refine aG (congrArg Value.bool (decide_eq_true em)) ?_
            refine ad fun _ m'=>ag 1 1 ?_
            refine ak rr rr<|aa.fin m' ?_;clear m'
            refine W.ret (dD (a' (a' (aB ?_))))
            have ne:=St.aF (C:= [_,_,_,_,_,_,_,_,_,_,_,_,_,_,_,_,_,_,_,_,_,_,_,_,_,_,_,_,_,_,_,_,_,_,_,_,_,_,_,_,_,_,_,_,_,_,_,_,_,_,_,_,_,_]) el [0,1,2,3,4,5,6,7,8,9,10,11,12,13,14,15,16,17,18,19,20,21,22,23,24,25,26,27,28,29,30,31] (by decide)
            simp only [pick,aL,aK,aM,aJ,ah,ai] at ne
            replace d:=d.2
            subst r
            refine ax.mk (.bj rr .nil) ?_
            exact ⟨u,x,t.length,m,y,E,F,o.length,s,G,rr,ne,I,J⟩
           ·
            replace d:=az d em
            refine aO (congrArg Value.bool (decide_eq_false em)) ?_
            refine W.skip ?_
            refine bo ?_
            exact ⟨d,(ab (ab (ab (ab (ab (ab au)))))),el⟩
     ·
      rintro s7 us ⟨s8,s9,f2⟩
      obtain ⟨s7,rfl⟩:=s9.open
      replace d:=s1 s8
      refine kw _ _ ?_;clear kw
      refine ad fun _ nl=>?_
      obtain ⟨cc,s',to⟩:=d
      refine bq (fun e w=>∃f3:bb,(cc=f3)∧∃eq:Nat,∃f4:Option Addr,∃f5:Option Nat,∃es:Nat,∃f6:Nat→Value,aU e [(0,pt c 0),(4,pt A 0),(6,VN g.toNat)]∧St B w0 (gL f5 (es*3) f6::g8 c 0 16 P::g8 c 16 32 Q::g8 c 48 32 R::g8 c 80 32 S::g8 c 112 32 M::g8 c 144 32 T::g8 c 176 32 U::g4 c 208 H::g4 c 209 f::g4 c 210 V::g4 c 211 i::g4 c 212 Z::g4 c 213 am::g8 c 214 32 ap::g8 c 246 32 a0::g4 c 278 a2::g8 c 279 64 a3::g1 c 343 (.slice u t.length m)::gL x (m*34) y::g1 c 344 (.int .i64 a5)::g1 c 345 (.int .i64 a9)::g1 c 346 (.int .i64 z)::g1 c 347 (.int .i64 be)::g1 c 348 (.int .i64 bi)::g4 c 349 n::g8 c 350 16 N::g4 c 366 k::g8 c 367 32 K::g4 c 399 j::g4 c 400 g::g1 c 401 (.slice f4 eq es)::g8 A 0 16 N::g4 A 16 k::g8 A 17 32 K::g4 A 49 j::g4 A 50 g::L) w∧LO cx [] f4 f5 eq es f6 f3) ?_ ?_
      ·
       replace d:=s'
       refine ad fun _ no=>ag 3 7 ?_
       refine aa.fieldAddr 209 e8 rr rr<|aX f2 40 rr rr rr (by omega) bf<|aR (a:=(f.toNat:Int)) (b:=((0#32).toNat:Int)) (p:=(0#32).toNat < f.toNat) rr rr rr rr dL<|aa.fin no ?_;clear no
       by_cases ex:(0#32).toNat < f.toNat
       ·
        replace d:=aA d ex
        refine aG (congrArg Value.bool (decide_eq_true ex)) ?_
        refine bd a7 [1,3,5,7,9,11,13,15,17,19,21,22,24,27,29,30] ?_
        have f7:=f2.drew
        refine aD rr rr<|aD rr rr<|aa.nilCheck rr rr<|aa.fieldAddr 401 gC rr rr<|aX f7 30 rr rr rr (by omega) jh<|aa.fieldAddr 209 e8 rr rr<|aX f7 40 rr rr rr (by omega) bf<|nN .u32 (X:=f) (Y:=1#32) rr rr rr ?_
        refine aj rr rr<|aj rr rr ?_
        refine dt (ps:= [p4 (f - (1#32)),p1 (VN i.toNat),p1 (VN j.toNat)]) oE (by decide) j7 rr rr (.one [] [p1 (VN 0),p1 (VN 0)] (fun _=>VU .u32 (0#32)) rr rr (.one [p4 (f - (1#32))] [p1 (VN 0)] (fun _=>VN 0) rr rr (.one [p4 (f - (1#32)),p1 (VN i.toNat)] [] (fun _=>VN 0) rr rr .nil))) ?_
        refine iB (D:=cx) (sz:=3) f7 [((),((f - (1#32)),((i.toNat:Nat):Int),((j.toNat:Nat):Int)))] jR j5 pM (by decide) (by decide) rr rr rr rr (fun _ _=>trivial) (av.keep (ae.cons 40 rr (ae.cons 30 rr ae.nil))) fun n5 ut ty u8 f8 t0=>?_
        replace f8:LO cx [] (some ⟨n5,0,none⟩) (some n5) ([((f - (1#32)),((i.toNat:Nat):Int),((j.toNat:Nat):Int))]:bb).length 1 ty ([((f - (1#32)),((i.toNat:Nat):Int),((j.toNat:Nat):Int))]:bb):=f8.re (fun _ _ h=>h)
        obtain ⟨n6,d⟩:=d
        refine j9 (D:=cx) (X:=o) (Y:=([((f - (1#32)),((i.toNat:Nat):Int),((j.toNat:Nat):Int))]:bb)) (sz:=3) t0 () (0#32,(0:Int),(0:Int)) 32 J rr qJ rr jR rr rr rr rr (cZ fp f8 0 rr) (fun _ _ h=>h) n6.1 n6.2 (fun _=>av.mix _ (aH.keep rr (aH.drop rr aH.nil)) (ae.cons 41 rr ae.nil)) fun n7 n8 ok ol vs f9 on=>?_
        simp only [ah,ai,aq,ar] at on
        replace f9:LO cx [] n7 n8 (o ++([((f - (1#32)),((i.toNat:Nat):Int),((j.toNat:Nat):Int))]:bb)).length ok ol (o ++([((f - (1#32)),((i.toNat:Nat):Int),((j.toNat:Nat):Int))]:bb)):=f9.re (fun _ _ h=>h)
        refine aa.nilCheck rr rr<|aa.fieldAddr 401 gC rr rr ?_
        refine hY on 31 rr rr rr rr rr rh rr fun v0 op=>?_
        simp only [ah,ai,aq,ar] at op
        refine aa.nil ?_
        exact ⟨(o ++([((f - (1#32)),((i.toNat:Nat):Int),((j.toNat:Nat):Int))]:bb)),d,(o ++([((f - (1#32)),((i.toNat:Nat):Int),((j.toNat:Nat):Int))]:bb)).length,n7,n8,ok,ol,(ab (ab (ab au))),bt 55 [32,1,2,3,4,5,6,7,8,9,10,11,12,13,14,15,16,17,18,19,20,21,22,23,24,25,26,27,28,29,30,31,50,51,52,53,54] op,f9⟩
       ·
        replace d:=az d ex
        refine aO (congrArg Value.bool (decide_eq_false ex)) ?_
        refine W.skip ?_
        exact ⟨o,d,o.length,E,F,s,G,(ab (ab (ab au))),bt 54 [31,0,1,2,3,4,5,6,7,8,9,10,11,12,13,14,15,16,17,18,19,20,21,22,23,24,25,26,27,28,29,30,49,50,51,52,53] f2,J⟩
      ·
       rintro t1 v1 ⟨f3,t2,eq,f4,f5,es,f6,t3,t4,or⟩
       subst t2
       obtain rfl:List.length (α:=(U4×Int×Int)) cc=eq:=or.hl
       obtain ⟨t1,rfl⟩:=t3.open
       replace d:=to
       refine nl _ _ ?_;clear nl
       refine ad fun _ os=>?_
       refine bd a7 [1,3,5,7,9,11,13,15,17,18,20,23,25,26] ?_
       have f':=t4.drew
       refine aD rr rr<|aD rr rr<|aa.nilCheck rr rr<|aa.fieldAddr 401 gC rr rr<|aX f' 31 rr rr rr (by omega) jh<|aa.fieldAddr 16 gi rr rr<|aX f' 33 rr rr rr (by omega) bf<|aj rr rr ?_
       refine dt (ps:= [p4 k,p1 (VN 0),p1 (VN g.toNat)]) oE (by decide) j7 rr rr (.one [] [p1 (VN 0),p1 (VN 0)] (fun _=>VU .u32 (0#32)) rr rr (.one [p4 k] [p1 (VN 0)] (fun _=>VN 0) rr rr (.one [p4 k,p1 (VN 0)] [] (fun _=>VN 0) rr rr .nil))) ?_
       refine iB (D:=cx) (sz:=3) f' [((),(k,0,((g.toNat:Nat):Int)))] jR j5 pM (by decide) (by decide) rr rr rr rr (fun _ _=>trivial) (av.keep (ae.cons 33 rr (ae.cons 31 rr ae.nil))) fun o' v2 t5 v3 gc t6=>?_
       replace gc:LO cx [] (some ⟨o',0,none⟩) (some o') ([(k,0,((g.toNat:Nat):Int))]:bb).length 1 t5 ([(k,0,((g.toNat:Nat):Int))]:bb):=gc.re (fun _ _ h=>h)
       obtain ⟨pi,d⟩:=d
       refine j9 (D:=cx) (X:=cc) (Y:=([(k,0,((g.toNat:Nat):Int))]:bb)) (sz:=3) t6 () (0#32,(0:Int),(0:Int)) 1 or rr qJ rr jR rr rr rr rr (cZ fp gc 0 rr) (fun _ _ h=>h) pi.1 pi.2 (fun _=>av.mix _ (aH.keep rr (aH.drop rr aH.nil)) (ae.cons 34 rr ae.nil)) fun pl pm pp pu v4 gd qr=>?_
       simp only [ah,ai,aq,ar] at qr
       replace gd:LO cx [] pl pm (cc ++([(k,0,((g.toNat:Nat):Int))]:bb)).length pp pu (cc ++([(k,0,((g.toNat:Nat):Int))]:bb)):=gd.re (fun _ _ h=>h)
       refine aa.nilCheck rr rr<|aa.fieldAddr 401 gC rr rr ?_
       refine hY qr 32 rr rr rr rr rr rh rr fun v5 rc=>?_
       simp only [ah,ai,aq,ar] at rc
       refine aa.fin os ?_;clear os
       refine ad fun _ rd=>ag 1 1 ?_
       refine ak rr rr<|aa.fin rd ?_;clear rd
       refine W.ret (aB ?_)
       have rg:=St.aF (C:= [_,_,_,_,_,_,_,_,_,_,_,_,_,_,_,_,_,_,_,_,_,_,_,_,_,_,_,_,_,_,_,_,_,_,_,_,_,_]) rc [2,3,4,5,6,7,8,9,10,11,12,13,14,15,16,17,18,19,20,21,22,23,24,25,26,27,28,29,30,31,32,1] (by decide)
       simp only [pick,aL,aK,aM,aJ,ah,ai] at rg
       subst r
       refine ax.mk (.bj rr .nil) ?_
       exact ⟨u,x,t.length,m,y,pl,pm,(cc ++([(k,0,((g.toNat:Nat):Int))]:bb)).length,pp,pu,rr,rg,I,gd⟩
set_option maxRecDepth 8000 in
set_option maxHeartbeats 16000000 in
theorem zu {B:Nat} {w0:aC} {w:World} {L:List Rg} {c:Nat} {u x y z A E F:K8} {G H I J K M:U4} {N O:K8} {P:U4} {Q:K8} {m:aZ} {q:Option Addr} {s:Option Nat} {em k:Nat} {t:Nat→Value} (a5:LO bB [] q s em k t m) {R S T n U:Int} {V:U4} {Z:K8} {i:U4} {am:K8} {ap f:U4} {g:bb} {o:Option Addr} {a3:Option Nat} {eq l:Nat} {a4:Nat→Value} (a9:LO cx [] o a3 eq l a4 g) {r:(Nat×(aZ)×(bb))} (d:mn u x y z A E F G H I J K M N O P Q m R S T n U V Z i am ap f g r) (es:St B w0 (g8 c 0 16 u::g8 c 16 32 x::g8 c 48 32 y::g8 c 80 32 z::g8 c 112 32 A::g8 c 144 32 E::g8 c 176 32 F::g4 c 208 G::g4 c 209 H::g4 c 210 I::g4 c 211 J::g4 c 212 K::g4 c 213 M::g8 c 214 32 N::g8 c 246 32 O::g4 c 278 P::g8 c 279 64 Q::g1 c 343 (.slice q em k)::gL s (k*34) t::g1 c 344 (.int .i64 R)::g1 c 345 (.int .i64 S)::g1 c 346 (.int .i64 T)::g1 c 347 (.int .i64 n)::g1 c 348 (.int .i64 U)::g4 c 349 V::g8 c 350 16 Z::g4 c 366 i::g8 c 367 32 am::g4 c 399 ap::g4 c 400 f::g1 c 401 (.slice o eq l)::gL a3 (l*3) a4::L) w):
  Calls Tryz.prog 62 #[pt c 0] w fun e w'=>∃ex:Option Addr,∃fd:Option Nat,∃fn d3:Nat,∃f0:Nat→Value,∃f1:Option Addr,∃f2:Option Nat,∃f3 d4:Nat,∃f4:Nat→Value,e= .returned (VN r.1)∧St B w0 (g8 c 0 16 u::g8 c 16 32 x::g8 c 48 32 y::g8 c 80 32 z::g8 c 112 32 A::g8 c 144 32 E::g8 c 176 32 F::g4 c 208 G::g4 c 209 H::g4 c 210 I::g4 c 211 J::g4 c 212 K::g4 c 213 M::g8 c 214 32 N::g8 c 246 32 O::g4 c 278 P::g8 c 279 64 Q::g1 c 343 (.slice ex fn d3)::gL fd (d3*34) f0::g1 c 344 (.int .i64 R)::g1 c 345 (.int .i64 S)::g1 c 346 (.int .i64 T)::g1 c 347 (.int .i64 n)::g1 c 348 (.int .i64 U)::g4 c 349 V::g8 c 350 16 Z::g4 c 366 i::g8 c 367 32 am::g4 c 399 ap::g4 c 400 f::g1 c 401 (.slice f1 f3 d4)::gL f2 (d4*3) f4::L) w'∧LO bB [] ex fd fn d3 f0 r.2.1∧LO cx [] f1 f2 f3 d4 f4 r.2.2:=by
 refine W.enter 97 Tryz.func62 rr rr rr ?_
 unfold mn at d
 have i6:=a5.hl;subst i6
 have i7:=a9.hl;subst i7
 refine ad fun _ f5=>ag 1 1 ?_
 refine ak rr rr<|aa.fin f5 ?_;clear f5
 refine ad fun _ f6=>ag 1 1 ?_
 refine ak rr rr<|aa.fin f6 ?_;clear f6
 refine ad fun _ f7=>ad fun _ f8=>?_
 refine ag 6 63 ?_
 refine aD rr rr<|aa.nilCheck rr rr<|aa.fieldAddr 401 gC rr rr<|aX es 30 rr rr rr (by omega) jh<|aa.len nW rr rr<|aj rr rr<|aa.fin f8 ?_;clear f8
 obtain ⟨a0,i8,i9⟩:=d
 refine bq (fun e w=>∃d5:Int,a0=d5∧aU e [(0,pt c 0),(3,.int .i64 d5)]∧St B w0 (g8 c 0 16 u::g8 c 16 32 x::g8 c 48 32 y::g8 c 80 32 z::g8 c 112 32 A::g8 c 144 32 E::g8 c 176 32 F::g4 c 208 G::g4 c 209 H::g4 c 210 I::g4 c 211 J::g4 c 212 K::g4 c 213 M::g8 c 214 32 N::g8 c 246 32 O::g4 c 278 P::g8 c 279 64 Q::g1 c 343 (.slice q m.length k)::gL s (k*34) t::g1 c 344 (.int .i64 R)::g1 c 345 (.int .i64 S)::g1 c 346 (.int .i64 T)::g1 c 347 (.int .i64 n)::g1 c 348 (.int .i64 U)::g4 c 349 V::g8 c 350 16 Z::g4 c 366 i::g8 c 367 32 am::g4 c 399 ap::g4 c 400 f::g1 c 401 (.slice o g.length l)::gL a3 (l*3) a4::L) w) ?_ ?_
 ·
  refine W.block ?_
  refine bS i8 (fun (f9:(Int×Nat)) e w=>aU e [(0,pt c 0),(3,.int .i64 f9.1),(14,.slice o g.length l),(15,VN g.length),(16,VN f9.2)]∧St B w0 (g8 c 0 16 u::g8 c 16 32 x::g8 c 48 32 y::g8 c 80 32 z::g8 c 112 32 A::g8 c 144 32 E::g8 c 176 32 F::g4 c 208 G::g4 c 209 H::g4 c 210 I::g4 c 211 J::g4 c 212 K::g4 c 213 M::g8 c 214 32 N::g8 c 246 32 O::g4 c 278 P::g8 c 279 64 Q::g1 c 343 (.slice q m.length k)::gL s (k*34) t::g1 c 344 (.int .i64 R)::g1 c 345 (.int .i64 S)::g1 c 346 (.int .i64 T)::g1 c 347 (.int .i64 n)::g1 c 348 (.int .i64 U)::g4 c 349 V::g8 c 350 16 Z::g4 c 366 i::g8 c 367 32 am::g4 c 399 ap::g4 c 400 f::g1 c 401 (.slice o g.length l)::gL a3 (l*3) a4::L) w) ⟨(ab (ab (ab (ab (ab au))))),es⟩ ?_
  rintro ⟨f',t62⟩ rt d jd jp rx ⟨kk,cc⟩
  obtain ⟨jp,rfl⟩:=kk.open
  unfold sL at d
  refine ad fun _ gc=>ag 1 1 ?_
  refine aR (a:=(((t62:Nat):Int):Int)) (b:=(((g.length:Nat):Int):Int)) (p:=t62 < g.length) rr rr rr rr bW<|aa.fin gc ?_;clear gc
  refine ad fun _ gd=>?_
  by_cases cd:t62 < g.length
  ·
   replace d:=aA d cd
   refine aG (congrArg Value.bool (decide_eq_true cd)) ?_
   refine W.skip ?_
   refine gd _ _ ?_;clear gd
   refine ad fun _ ge=>?_
   refine W.block ?_
   refine ad fun _ go=>ag 4 3 ?_
   obtain ⟨gs,d⟩:=d
   refine f_ (D:=cx) (j:=t62) cc (cZ fp a9 31 rr) p6 rr rr rr gs ?_
   refine ht (D:=cx) (X:=g) (j:=t62) (sz:=3) cc (0#32,(0:Int),(0:Int)) (cZ fp a9 31 rr) rr rr gs rr l1 fun sp st s1 kw=>?_
   refine aa.alloc cc rr j7 (ae.cons 31 kw ae.nil) fun s2 s3 s4 gt=>?_
   simp only [ao,Nat.zero_add,Nat.reduceAdd,ah,ai] at gt
   refine bA (ps:= [p4 ((g.getD t62 (0#32,(0:Int),(0:Int))).1),p1 (.int .i64 ((g.getD t62 (0#32,(0:Int),(0:Int))).2.1)),p1 (.int .i64 ((g.getD t62 (0#32,(0:Int),(0:Int))).2.2))]) gt rr rr rr (.cons 0 rr (.cons 1 rr (.cons 2 rr .nil))) ⟨fun _ _=>rr,fun _ _=>rr,fun _ _=>rr,trivial⟩ j5 (av.wait rr) fun s5 ce=>?_
   simp only [ah,ai,aq,ar] at ce
   refine aa.fin go ?_;clear go
   refine ag 8 255 ?_
   refine aj rr rr<|aa.fieldAddr 2 q7 rr rr<|aX ce 2 rr rr rr (by omega) ed<|aa.fieldAddr 1 sM rr rr<|aX ce 1 rr rr rr (by omega) ed ?_
   obtain ⟨s6,d⟩:=d
   refine d' (a:=(g.getD t62 (0#32,(0:Int),(0:Int))).2.2) (b:=(g.getD t62 (0#32,(0:Int),(0:Int))).2.1) rr rr rr (by omega) ?_
   obtain ⟨s7,d⟩:=d
   refine iF (a:=f') (b:=(((g.getD t62 (0#32,(0:Int),(0:Int))).2.2) - ((g.getD t62 (0#32,(0:Int),(0:Int))).2.1))) rr rr rr (by omega)<|ak rr rr<|aa.nil ?_
   refine bo ?_
   refine ge _ _ ?_;clear ge
   refine ag 2 3 ?_
   obtain ⟨s8,d⟩:=d
   refine bu (a:=t62) (b:=1) rr rr rr (by omega)<|aj rr rr<|aa.nil ?_
   exact bG ⟨_,d,(ab (ab (ab (ab (ab au))))),bt 35 [3,4,5,6,7,8,9,10,11,12,13,14,15,16,17,18,19,20,21,22,23,24,25,26,27,28,29,30,31,32,33,34] ce⟩
  ·
   replace d:=az d cd
   refine aO (congrArg Value.bool (decide_eq_false cd)) ?_
   refine W.exit (bM (bU (bL ?_)))
   exact ⟨f',(jd _ d).symm,(ab (ab au)),cc⟩
 ·
  rintro lc s9 ⟨d5,ld,le,li⟩
  obtain ⟨lc,rfl⟩:=le.open
  subst ld
  replace d:=i9
  refine f7 _ _ ?_;clear f7
  refine ad fun _ g0=>?_
  obtain ⟨lm,lo,ls⟩:=d
  refine bq (fun e w=>(lm=true)∧aU e [(0,pt c 0)]∧St B w0 (g8 c 0 16 u::g8 c 16 32 x::g8 c 48 32 y::g8 c 80 32 z::g8 c 112 32 A::g8 c 144 32 E::g8 c 176 32 F::g4 c 208 G::g4 c 209 H::g4 c 210 I::g4 c 211 J::g4 c 212 K::g4 c 213 M::g8 c 214 32 N::g8 c 246 32 O::g4 c 278 P::g8 c 279 64 Q::g1 c 343 (.slice q m.length k)::gL s (k*34) t::g1 c 344 (.int .i64 R)::g1 c 345 (.int .i64 S)::g1 c 346 (.int .i64 T)::g1 c 347 (.int .i64 n)::g1 c 348 (.int .i64 U)::g4 c 349 V::g8 c 350 16 Z::g4 c 366 i::g8 c 367 32 am::g4 c 399 ap::g4 c 400 f::g1 c 401 (.slice o g.length l)::gL a3 (l*3) a4::L) w) ?_ ?_
  ·
   replace d:=lo
   refine ad fun _ ci=>?_
   refine bd a7 [1,3,5,7,9,11,13,15,17,19,21,23,25,27,29,31,33] ?_
   have be:=li.drew
   refine aj rr rr ?_
   by_cases cl:0 < a0
   ·
    replace d:=aA d cl
    refine bI (a:=(a0:Int)) (b:=(0:Int)) (p:=0 < a0) (v:=true) rr rr rr rr fw (decide_eq_true cl)<|a_ rr rr<|aj rr rr<|aD rr rr<|aa.nilCheck rr rr<|aa.fieldAddr 343 gM rr rr<|aX be 17 rr rr rr (by omega) hr<|aa.len iN rr rr ?_
    obtain ⟨s',d⟩:=d
    refine iF (a:=a0) (b:=((m.length:Nat):Int)) rr rr rr (by omega)<|aD rr rr<|aa.nilCheck rr rr<|aa.fieldAddr 344 j1 rr rr<|aa.fieldAddr 3 sw rr rr<|aX be 22 rr rr rr (by omega) ed<|aR (a:=((a0+((m.length:Nat):Int)):Int)) (b:=(n:Int)) (p:=n < (a0+((m.length:Nat):Int))) rr rr rr rr fw<|b0 rr rr rr ?_
    refine aa.fin ci ?_;clear ci
    by_cases co:n < (a0+((m.length:Nat):Int))
    ·
     replace d:=aA d co
     refine aG (congrArg Value.bool (decide_eq_true co)) ?_
     refine ad fun _ g2=>ag 1 1 ?_
     refine ak rr rr<|aa.fin g2 ?_;clear g2
     refine W.ret (a' (a' (aB ?_)))
     replace d:=d.2
     subst r
     refine ax.mk (.bj rr .nil) ?_
     exact ⟨q,s,m.length,k,t,o,a3,g.length,l,a4,rr,be,a5,a9⟩
    ·
     replace d:=az d co
     refine aO (congrArg Value.bool (decide_eq_false co)) ?_
     refine W.skip ?_
     exact ⟨d,(ab au),be⟩
   ·
    replace d:=az d cl
    refine bI (a:=(a0:Int)) (b:=(0:Int)) (p:=0 < a0) (v:=false) rr rr rr rr fw (decide_eq_false cl)<|a_ rr rr<|al rr<|al rr<|al rr<|al rr<|al rr<|al rr ?_
    refine al rr<|al rr<|al rr<|al rr<|al rr<|al rr<|al rr<|ca rr rr rr ?_
    refine aa.fin ci ?_;clear ci
    refine aO rr ?_
    refine W.skip ?_
    exact ⟨d,(ab au),be⟩
  ·
   rintro lt to ⟨lw,md,mp⟩
   obtain ⟨lt,rfl⟩:=md.open
   replace d:=ls lw
   refine g0 _ _ ?_;clear g0
   refine ad fun _ g3=>ad fun _ g5=>?_
   refine bd a7 [1,3,5,7,9,11,13,15,17,19,21,23,25,27,29,31,33,35,37,39,41,43,45,53,46,48,51] ?_
   have bi:=mp.drew
   refine aD rr rr<|aa.nilCheck rr rr<|aa.fieldAddr 401 gC rr rr<|aX bi 30 rr rr rr (by omega) jh<|aD rr rr<|aa.nilCheck rr rr<|aa.fieldAddr 350 e7 rr rr<|aa.fieldAddr 16 gi rr rr ?_
   refine aX bi 26 rr rr rr (by omega) bf<|aD rr rr<|aa.nilCheck rr rr<|aa.fieldAddr 350 e7 rr rr<|aa.fieldAddr 50 gl rr rr<|aX bi 29 rr rr rr (by omega) bf<|h8 (a:=f.toNat) gX eP rr rr (Nat.lt_of_lt_of_le f.isLt (by decide))<|aD rr rr ?_
   refine aa.nilCheck rr rr<|aa.fieldAddr 350 e7 rr rr<|aa.fieldAddr 50 gl rr rr<|aX bi 29 rr rr rr (by omega) bf<|h8 (a:=f.toNat) gX eP rr rr (Nat.lt_of_lt_of_le f.isLt (by decide))<|bu (a:=f.toNat) (b:=1) rr rr rr (by omega) ?_
   refine dt (ps:= [p4 i,p1 (VN f.toNat),p1 (VN (f.toNat+1))]) oE (by decide) j7 rr rr (.one [] [p1 (VN 0),p1 (VN 0)] (fun _=>VU .u32 (0#32)) rr rr (.one [p4 i] [p1 (VN 0)] (fun _=>VN 0) rr rr (.one [p4 i,p1 (VN f.toNat)] [] (fun _=>VN 0) rr rr .nil))) ?_
   refine aj rr rr ?_
   refine iB (D:=cx) (sz:=3) bi [((),(i,((f.toNat:Nat):Int),(((f.toNat+1):Nat):Int)))] jR j5 pM (by decide) (by decide) rr rr rr rr (fun _ _=>trivial) (av.keep (ae.cons 29 rr (ae.cons 29 rr (ae.cons 26 rr (ae.cons 30 rr ae.nil))))) fun g6 ty ms t0 d6 mt=>?_
   replace d6:LO cx [] (some ⟨g6,0,none⟩) (some g6) ([(i,((f.toNat:Nat):Int),(((f.toNat+1):Nat):Int))]:bb).length 1 ms ([(i,((f.toNat:Nat):Int),(((f.toNat+1):Nat):Int))]:bb):=d6.re (fun _ _ h=>h)
   obtain ⟨g7,d⟩:=d
   refine DH (D:=cx) (X:=g) (Y:=([(i,((f.toNat:Nat):Int),(((f.toNat+1):Nat):Int))]:bb)) (sz:=3) mt () (0#32,(0:Int),(0:Int)) 32 fp a9 rr qJ rr jR rr rr rr rr (cZ fp d6 0 rr) g7.1 g7.2 (fun _ _=>av.mix _ (aH.keep rr (aH.keep rr (aH.keep rr (aH.drop rr aH.nil)))) (ae.cons 31 rr (ae.cons 31 rr (ae.cons 28 rr ae.nil)))) fun d7 cs a2 c1 c2 t1 t2 g9 t3 m0 he hi=>?_
   simp only [ah,ai,aq,ar] at hi m0
   refine aa.len nW rr rr<|aa.fin g5 ?_;clear g5
   obtain ⟨m1,m2,m3⟩:=d
   refine bq (fun e w=>m1=some ()∧aU e []∧St B w0 (gL cs (a2*3) c1::g8 c 0 16 u::g8 c 16 32 x::g8 c 48 32 y::g8 c 80 32 z::g8 c 112 32 A::g8 c 144 32 E::g8 c 176 32 F::g4 c 208 G::g4 c 209 H::g4 c 210 I::g4 c 211 J::g4 c 212 K::g4 c 213 M::g8 c 214 32 N::g8 c 246 32 O::g4 c 278 P::g8 c 279 64 Q::g1 c 343 (.slice q m.length k)::gL s (k*34) t::g1 c 344 (.int .i64 R)::g1 c 345 (.int .i64 S)::g1 c 346 (.int .i64 T)::g1 c 347 (.int .i64 n)::g1 c 348 (.int .i64 U)::g4 c 349 V::g8 c 350 16 Z::g4 c 366 i::g8 c 367 32 am::g4 c 399 ap::g4 c 400 f::g1 c 401 (.slice o g.length l)::c2::L) w) ?_ ?_
   ·
    refine W.block ?_
    refine bS m2 (fun (m4:Nat) e w=>aU e [(0,pt c 0),(69,.slice d7 ((g ++([(i,((f.toNat:Nat):Int),(((f.toNat+1):Nat):Int))]:bb)).length) a2),(70,VN ((g ++([(i,((f.toNat:Nat):Int),(((f.toNat+1):Nat):Int))]:bb)).length)),(71,VN m4)]∧St B w0 (gL cs (a2*3) c1::g8 c 0 16 u::g8 c 16 32 x::g8 c 48 32 y::g8 c 80 32 z::g8 c 112 32 A::g8 c 144 32 E::g8 c 176 32 F::g4 c 208 G::g4 c 209 H::g4 c 210 I::g4 c 211 J::g4 c 212 K::g4 c 213 M::g8 c 214 32 N::g8 c 246 32 O::g4 c 278 P::g8 c 279 64 Q::g1 c 343 (.slice q m.length k)::gL s (k*34) t::g1 c 344 (.int .i64 R)::g1 c 345 (.int .i64 S)::g1 c 346 (.int .i64 T)::g1 c 347 (.int .i64 n)::g1 c 348 (.int .i64 U)::g4 c 349 V::g8 c 350 16 Z::g4 c 366 i::g8 c 367 32 am::g4 c 399 ap::g4 c 400 f::g1 c 401 (.slice o g.length l)::c2::L) w) ⟨(ab (ab (ab (ab au)))),bt 34 [0,2,3,4,5,6,7,8,9,10,11,12,13,14,15,16,17,18,19,20,21,22,23,24,25,26,27,28,29,30,31,32,33] hi⟩ ?_
    rintro t220 t4 d m5 m6 t5 ⟨m7,dl⟩
    obtain ⟨m6,rfl⟩:=m7.open
    unfold p' at d
    refine ad fun _ hk=>ag 1 1 ?_
    refine aR (a:=(((t220:Nat):Int):Int)) (b:=((((g ++([(i,((f.toNat:Nat):Int),(((f.toNat+1):Nat):Int))]:bb)).length:Nat):Int):Int)) (p:=t220 < (g ++([(i,((f.toNat:Nat):Int),(((f.toNat+1):Nat):Int))]:bb)).length) rr rr rr rr bW<|aa.fin hk ?_;clear hk
    refine ad fun _ hm=>?_
    by_cases ds:t220 < (g ++([(i,((f.toNat:Nat):Int),(((f.toNat+1):Nat):Int))]:bb)).length
    ·
     replace d:=aA d ds
     refine aG (congrArg Value.bool (decide_eq_true ds)) ?_
     refine W.skip ?_
     refine hm _ _ ?_;clear hm
     refine ad fun _ hu=>?_
     refine W.block ?_
     refine ad fun _ hw=>ag 4 3 ?_
     obtain ⟨hH,d⟩:=d
     refine f_ (D:=cx) (j:=t220) dl (cZ fp g9 0 rr) p6 rr rr rr hH ?_
     refine ht (D:=cx) (X:=(g ++([(i,((f.toNat:Nat):Int),(((f.toNat+1):Nat):Int))]:bb))) (j:=t220) (sz:=3) dl (0#32,(0:Int),(0:Int)) (cZ fp g9 0 rr) rr rr hH rr l1 fun t6 t7 t8 m8=>?_
     refine aa.alloc dl rr j7 (ae.cons 0 m8 ae.nil) fun d0 t9 t' hO=>?_
     simp only [ao,Nat.zero_add,Nat.reduceAdd,ah,ai] at hO
     refine bA (ps:= [p4 (((g ++([(i,((f.toNat:Nat):Int),(((f.toNat+1):Nat):Int))]:bb)).getD t220 (0#32,(0:Int),(0:Int))).1),p1 (.int .i64 (((g ++([(i,((f.toNat:Nat):Int),(((f.toNat+1):Nat):Int))]:bb)).getD t220 (0#32,(0:Int),(0:Int))).2.1)),p1 (.int .i64 (((g ++([(i,((f.toNat:Nat):Int),(((f.toNat+1):Nat):Int))]:bb)).getD t220 (0#32,(0:Int),(0:Int))).2.2))]) hO rr rr rr (.cons 0 rr (.cons 1 rr (.cons 2 rr .nil))) ⟨fun _ _=>rr,fun _ _=>rr,fun _ _=>rr,trivial⟩ j5 (av.wait rr) fun ul d8=>?_
     simp only [ah,ai,aq,ar] at d8
     refine aa.fin hw ?_;clear hw
     refine ad fun _ h1=>ag 3 7 ?_
     refine aa.fieldAddr 1 sM rr rr<|aX d8 1 rr rr rr (by omega) ed<|ak rr rr<|aa.fin h1 ?_;clear h1
     obtain ⟨m9,m',ne⟩:=d
     refine bq (fun e w=>m9=some ()∧aU e [(0,pt c 0),(69,.slice d7 ((g ++([(i,((f.toNat:Nat):Int),(((f.toNat+1):Nat):Int))]:bb)).length) a2),(70,VN ((g ++([(i,((f.toNat:Nat):Int),(((f.toNat+1):Nat):Int))]:bb)).length)),(71,VN t220)]∧St B w0 (gL cs (a2*3) c1::g8 c 0 16 u::g8 c 16 32 x::g8 c 48 32 y::g8 c 80 32 z::g8 c 112 32 A::g8 c 144 32 E::g8 c 176 32 F::g4 c 208 G::g4 c 209 H::g4 c 210 I::g4 c 211 J::g4 c 212 K::g4 c 213 M::g8 c 214 32 N::g8 c 246 32 O::g4 c 278 P::g8 c 279 64 Q::g1 c 343 (.slice q m.length k)::gL s (k*34) t::g1 c 344 (.int .i64 R)::g1 c 345 (.int .i64 S)::g1 c 346 (.int .i64 T)::g1 c 347 (.int .i64 n)::g1 c 348 (.int .i64 U)::g4 c 349 V::g8 c 350 16 Z::g4 c 366 i::g8 c 367 32 am::g4 c 399 ap::g4 c 400 f::g1 c 401 (.slice o g.length l)::c2::L) w) ?_ ?_
     ·
      refine W.block ?_
      refine bS m' (fun (nl:Int) e w=>aU e [(0,pt c 0),(7,pt d0 0),(8,.int .i64 nl),(69,.slice d7 ((g ++([(i,((f.toNat:Nat):Int),(((f.toNat+1):Nat):Int))]:bb)).length) a2),(70,VN ((g ++([(i,((f.toNat:Nat):Int),(((f.toNat+1):Nat):Int))]:bb)).length)),(71,VN t220)]∧St B w0 (g4 d0 0 (((g ++([(i,((f.toNat:Nat):Int),(((f.toNat+1):Nat):Int))]:bb)).getD t220 (0#32,(0:Int),(0:Int))).1)::g1 d0 1 (.int .i64 (((g ++([(i,((f.toNat:Nat):Int),(((f.toNat+1):Nat):Int))]:bb)).getD t220 (0#32,(0:Int),(0:Int))).2.1))::g1 d0 2 (.int .i64 (((g ++([(i,((f.toNat:Nat):Int),(((f.toNat+1):Nat):Int))]:bb)).getD t220 (0#32,(0:Int),(0:Int))).2.2))::gL cs (a2*3) c1::g8 c 0 16 u::g8 c 16 32 x::g8 c 48 32 y::g8 c 80 32 z::g8 c 112 32 A::g8 c 144 32 E::g8 c 176 32 F::g4 c 208 G::g4 c 209 H::g4 c 210 I::g4 c 211 J::g4 c 212 K::g4 c 213 M::g8 c 214 32 N::g8 c 246 32 O::g4 c 278 P::g8 c 279 64 Q::g1 c 343 (.slice q m.length k)::gL s (k*34) t::g1 c 344 (.int .i64 R)::g1 c 345 (.int .i64 S)::g1 c 346 (.int .i64 T)::g1 c 347 (.int .i64 n)::g1 c 348 (.int .i64 U)::g4 c 349 V::g8 c 350 16 Z::g4 c 366 i::g8 c 367 32 am::g4 c 399 ap::g4 c 400 f::g1 c 401 (.slice o g.length l)::c2::L) w) ⟨(ab (ab (ab (ab (ab (ab au)))))),d8⟩ ?_
      rintro bv un d no n5 up ⟨n6,d9⟩
      obtain ⟨n5,rfl⟩:=n6.open
      unfold mz at d
      refine ad fun _ id=>ad fun _ ii=>?_
      refine ag 4 15 ?_
      refine aj rr rr<|aa.fieldAddr 2 q7 rr rr<|aX d9 2 rr rr rr (by omega) ed<|aR (a:=(bv:Int)) (b:=(((g ++([(i,((f.toNat:Nat):Int),(((f.toNat+1):Nat):Int))]:bb)).getD t220 (0#32,(0:Int),(0:Int))).2.2:Int)) (p:=bv < ((g ++([(i,((f.toNat:Nat):Int),(((f.toNat+1):Nat):Int))]:bb)).getD t220 (0#32,(0:Int),(0:Int))).2.2) rr rr rr rr fE<|aa.fin ii ?_;clear ii
      by_cases d1:bv < ((g ++([(i,((f.toNat:Nat):Int),(((f.toNat+1):Nat):Int))]:bb)).getD t220 (0#32,(0:Int),(0:Int))).2.2
      ·
       replace d:=aA d d1
       refine aG (congrArg Value.bool (decide_eq_true d1)) ?_
       refine W.skip ?_
       refine id _ _ ?_;clear id
       refine ad fun _ io=>?_
       refine W.block ?_
       refine ad fun _ ip=>?_
       refine bd a7 [1,3,5,7,9,11,13,15,16,19,21,23,25,27] ?_
       have el:=d9.drew
       refine aD rr rr<|aa.nilCheck rr rr<|aa.fieldAddr 343 gM rr rr<|aX el 21 rr rr rr (by omega) hr<|bm tD rr rr<|aX el 0 rr rr rr (by omega) bf<|aj rr rr<|hQ .u32 (a:=bv) jF e_ rr rr ?_
       obtain ⟨us,n7,n8,d⟩:=d
       refine aw yV (xm (by exact (cZ gg a5 22 rr)) n8 el) ?_
       rintro _ ut ⟨rfl,is⟩
       refine ⟨_,rr,.inr ⟨rr,?_⟩⟩
       refine bK rr rr<|b' rr rr rr<|gb rr rr rr<|ak rr rr<|a8 rr rr<|aa.fin ip ?_;clear ip
       refine ad fun _ it=>ag 1 1 ?_
       refine a_ rr rr<|aa.fin it ?_;clear it
       by_cases d2:n7=true
       ·
        replace d:=aA d d2
        refine aG (congrArg Value.bool d2) ?_
        refine ad fun _ i0=>ag 1 1 ?_
        refine ak rr rr<|aa.fin i0 ?_;clear i0
        refine W.ret (dD (a' (po (dD (a' (dD (a' (po (dD (a' (a' (aB ?_))))))))))))
        have i1:=St.aF (C:= [_,_,_,_,_,_,_,_,_,_,_,_,_,_,_,_,_,_,_,_,_,_,_,_,_,_,_,_,_,_,_,_,_,_,_,_]) is [3,35,0,1,2,4,5,6,7,8,9,10,11,12,13,14,15,16,17,18,19,20,21,22,23,24,25,26,27,28,29,30,31,32,33,34] (by decide)
        simp only [pick,aL,aK,aM,aJ,ah,ai] at i1
        obtain ⟨ok,ol,on,op⟩:=he
        have or:=vJ i1 op
        have i2:=St.aF (C:= [_,_,_,_,_,_,_,_,_,_,_,_,_,_,_,_,_,_,_,_,_,_,_,_,_,_,_,_,_,_,_,_,_,_,_]) or [4,5,6,7,8,9,10,11,12,13,14,15,16,17,18,19,20,21,22,23,24,25,26,27,28,29,30,31,32,33,34,0] (by decide)
        simp only [pick,aL,aK,aM,aJ,ah,ai] at i2
        replace d:=d.2
        replace d:=d.2
        subst r
        refine ax.mk (.bj rr .nil) ?_
        exact ⟨q,s,m.length,k,t,o,ok,g.length,l,ol,rr,i2,a5,on⟩
       ·
        replace d:=az d d2
        refine aO (congrArg Value.bool (Bool.eq_false_iff.2 d2)) ?_
        refine W.skip ?_
        refine bo ?_
        refine io _ _ ?_;clear io
        refine ag 3 7 ?_
        refine aj rr rr ?_
        obtain ⟨u8,d⟩:=d
        refine iF (a:=bv) (b:=1) rr rr rr (by omega)<|ak rr rr<|aa.nil ?_
        exact bG ⟨_,d,(ab (ab (ab (ab (ab (ab au)))))),is⟩
      ·
       replace d:=az d d1
       refine aO (congrArg Value.bool (decide_eq_false d1)) ?_
       refine W.exit (bM (bU (bL ?_)))
       exact ⟨(no _ d).symm,(ab (ab (ab (ab au)))),bt 36 [3,4,5,6,7,8,9,10,11,12,13,14,15,16,17,18,19,20,21,22,23,24,25,26,27,28,29,30,31,32,33,34,35] d9⟩
     ·
      rintro os vs ⟨o',pi,pl⟩
      obtain ⟨os,rfl⟩:=pi.open
      replace d:=ne o'
      refine bo ?_
      refine hu _ _ ?_;clear hu
      refine ag 2 3 ?_
      obtain ⟨v0,d⟩:=d
      refine bu (a:=t220) (b:=1) rr rr rr (by omega)<|aj rr rr<|aa.nil ?_
      exact bG ⟨_,d,(ab (ab (ab (ab au)))),pl⟩
    ·
     replace d:=az d ds
     refine aO (congrArg Value.bool (decide_eq_false ds)) ?_
     refine W.exit (bM (bU (bL ?_)))
     exact ⟨(m5 _ d).symm,au,dl⟩
   ·
    rintro pm v1 ⟨pp,pu,qr⟩
    obtain ⟨pm,rfl⟩:=pu.open
    replace d:=m3 pp
    refine g3 _ _ ?_;clear g3
    refine ad fun _ i3=>ag 1 1 ?_
    refine ak rr rr<|aa.fin i3 ?_;clear i3
    refine W.ret (aB ?_)
    have i4:=St.aF (C:= [_,_,_,_,_,_,_,_,_,_,_,_,_,_,_,_,_,_,_,_,_,_,_,_,_,_,_,_,_,_,_,_,_]) qr [0,32,1,2,3,4,5,6,7,8,9,10,11,12,13,14,15,16,17,18,19,20,21,22,23,24,25,26,27,28,29,30,31] (by decide)
    simp only [pick,aL,aK,aM,aJ,ah,ai] at i4
    obtain ⟨rc,rd,rg,ro⟩:=he
    have rs:=vJ i4 ro
    have i5:=St.aF (C:= [_,_,_,_,_,_,_,_,_,_,_,_,_,_,_,_,_,_,_,_,_,_,_,_,_,_,_,_,_,_,_,_]) rs [1,2,3,4,5,6,7,8,9,10,11,12,13,14,15,16,17,18,19,20,21,22,23,24,25,26,27,28,29,30,31,0] (by decide)
    simp only [pick,aL,aK,aM,aJ,ah,ai] at i5
    subst r
    refine ax.mk (.bj rr .nil) ?_
    exact ⟨q,s,m.length,k,t,o,rc,g.length,l,rd,rr,i5,a5,rg⟩
set_option maxRecDepth 8000 in
set_option maxHeartbeats 16000000 in
theorem xa {B:Nat} {w0:aC} {w:World} {L:List Rg} {iG1:Nat} (i2:gT L iG1 1 8 .u32 cH) {iG2:Nat} (i3:gT L iG2 2 64 .u32 bE) {c:Nat} {m n o s t u v:K8} {x y z A E F:U4} {G H:K8} {I:U4} {J:K8} {ds:aZ} {d0:Option Addr} {d1:Option Nat} {fd a5:Nat} {d2:Nat→Value} (fn:LO bB [] d0 d1 fd a5 d2 ds) {K M N O P:Int} {Q:U4} {R:K8} {S:U4} {T:K8} {U V:U4} {Z:bb} {am:Option Addr} {ap:Option Nat} {f0 j:Nat} {a0:Nat→Value} (f1:LO cx [] am ap f0 j a0 Z) {f2:K8} {g:U4} {d3 l:Int} {r:(K8×(aZ)×(bb))} (d:lE m n o s t u v x y z A E F G H I J ds K M N O P Q R S T U V Z f2 g d3 l r) (i4:St B w0 (g8 c 0 16 m::g8 c 16 32 n::g8 c 48 32 o::g8 c 80 32 s::g8 c 112 32 t::g8 c 144 32 u::g8 c 176 32 v::g4 c 208 x::g4 c 209 y::g4 c 210 z::g4 c 211 A::g4 c 212 E::g4 c 213 F::g8 c 214 32 G::g8 c 246 32 H::g4 c 278 I::g8 c 279 64 J::g1 c 343 (.slice d0 fd a5)::gL d1 (a5*34) d2::g1 c 344 (.int .i64 K)::g1 c 345 (.int .i64 M)::g1 c 346 (.int .i64 N)::g1 c 347 (.int .i64 O)::g1 c 348 (.int .i64 P)::g4 c 349 Q::g8 c 350 16 R::g4 c 366 S::g8 c 367 32 T::g4 c 399 U::g4 c 400 V::g1 c 401 (.slice am f0 j)::gL ap (j*3) a0::L) w):
  Calls Tryz.prog 96 #[pt c 0,AG [p8 32 f2],AG [p4 g,p1 (.int .i64 d3),p1 (.int .i64 l)]] w fun e w'=>∃f3:Option Addr,∃f4:Option Nat,∃f5 d4:Nat,∃f6:Nat→Value,∃f7:Option Addr,∃f8:Option Nat,∃f9 d5:Nat,∃gc:Nat→Value,e= .returned (AG [p8 32 r.1])∧St B w0 (g8 c 0 16 m::g8 c 16 32 n::g8 c 48 32 o::g8 c 80 32 s::g8 c 112 32 t::g8 c 144 32 u::g8 c 176 32 v::g4 c 208 x::g4 c 209 y::g4 c 210 z::g4 c 211 A::g4 c 212 E::g4 c 213 F::g8 c 214 32 G::g8 c 246 32 H::g4 c 278 I::g8 c 279 64 J::g1 c 343 (.slice f3 f5 d4)::gL f4 (d4*34) f6::g1 c 344 (.int .i64 K)::g1 c 345 (.int .i64 M)::g1 c 346 (.int .i64 N)::g1 c 347 (.int .i64 O)::g1 c 348 (.int .i64 P)::g4 c 349 Q::g8 c 350 16 R::g4 c 366 S::g8 c 367 32 T::g4 c 399 U::g4 c 400 V::g1 c 401 (.slice f7 f9 d5)::gL f8 (d5*3) gc::L) w'∧LO bB [] f3 f4 f5 d4 f6 r.2.1∧LO cx [] f7 f8 f9 d5 gc r.2.2:=by
 refine W.enter 40 Tryz.func96 rr rr rr ?_
 unfold lE at d
 have i5:=fn.hl;subst i5
 have i6:=f1.hl;subst i6
 refine ad fun _ gd=>ag 3 0 ?_
 refine bp i4 rr rr ae.nil fun a9 lo ls ge=>?_
 simp only [ao,Nat.zero_add,Nat.reduceAdd,ah,ai] at ge
 refine bp ge rr rr ae.nil fun be lt lw go=>?_
 simp only [ao,Nat.zero_add,Nat.reduceAdd,ah,ai] at go
 refine aa.alloc go rr c4 ae.nil fun bi md mp d6=>?_
 simp only [ao,Nat.zero_add,Nat.reduceAdd,ah,ai] at d6
 refine aa.fin gd ?_;clear gd
 refine ad fun _ gs=>ad fun _ gt=>?_
 refine ag 3 7 ?_
 refine aa.fieldAddr 1 sM rr rr<|aX d6 2 rr rr rr (by omega) ed<|ak rr rr<|aa.fin gt ?_;clear gt
 obtain ⟨g0,d7,i7,i8⟩:=d
 refine bq (fun e w=>∃d8:K8,∃d9:aZ,(g0,d7)=(d8,d9)∧∃bv:Nat,∃cc:Option Addr,∃cd:Option Nat,∃a2:Nat,∃ce:Nat→Value,aU e [(4,pt a9 0),(6,pt bi 0)]∧St B w0 (gL cd (a2*34) ce::g8 bi 0 32 (fun _=>0#8)::g8 a9 0 32 d8::g8 c 0 16 m::g8 c 16 32 n::g8 c 48 32 o::g8 c 80 32 s::g8 c 112 32 t::g8 c 144 32 u::g8 c 176 32 v::g4 c 208 x::g4 c 209 y::g4 c 210 z::g4 c 211 A::g4 c 212 E::g4 c 213 F::g8 c 214 32 G::g8 c 246 32 H::g4 c 278 I::g8 c 279 64 J::g1 c 343 (.slice cc bv a2)::g1 c 344 (.int .i64 K)::g1 c 345 (.int .i64 M)::g1 c 346 (.int .i64 N)::g1 c 347 (.int .i64 O)::g1 c 348 (.int .i64 P)::g4 c 349 Q::g8 c 350 16 R::g4 c 366 S::g8 c 367 32 T::g4 c 399 U::g4 c 400 V::g1 c 401 (.slice am Z.length j)::gL ap (j*3) a0::L) w∧LO bB [] cc cd bv a2 ce d9) ?_ ?_
 ·
  refine W.block ?_
  refine bS i7 (fun (el:(Int×K8×(aZ))) e w=>∃ci:Nat,∃cl:Option Addr,∃co:Option Nat,∃a3:Nat,∃cs:Nat→Value,aU e [(0,pt c 0),(4,pt a9 0),(5,pt be 0),(6,pt bi 0),(7,.int .i64 el.1)]∧St B w0 (gL co (a3*34) cs::g8 bi 0 32 (fun _=>0#8)::g4 be 0 g::g1 be 1 (.int .i64 d3)::g1 be 2 (.int .i64 l)::g8 a9 0 32 el.2.1::g8 c 0 16 m::g8 c 16 32 n::g8 c 48 32 o::g8 c 80 32 s::g8 c 112 32 t::g8 c 144 32 u::g8 c 176 32 v::g4 c 208 x::g4 c 209 y::g4 c 210 z::g4 c 211 A::g4 c 212 E::g4 c 213 F::g8 c 214 32 G::g8 c 246 32 H::g4 c 278 I::g8 c 279 64 J::g1 c 343 (.slice cl ci a3)::g1 c 344 (.int .i64 K)::g1 c 345 (.int .i64 M)::g1 c 346 (.int .i64 N)::g1 c 347 (.int .i64 O)::g1 c 348 (.int .i64 P)::g4 c 349 Q::g8 c 350 16 R::g4 c 366 S::g8 c 367 32 T::g4 c 399 U::g4 c 400 V::g1 c 401 (.slice am Z.length j)::gL ap (j*3) a0::L) w∧LO bB [] cl co ci a3 cs el.2.2) ⟨ds.length,d0,d1,a5,d2,(ab (ab (ab (ab (ab au))))),bt 37 [23,0,1,2,3,4,5,6,7,8,9,10,11,12,13,14,15,16,17,18,19,20,21,22,24,25,26,27,28,29,30,31,32,33,34,35,36] d6,fn⟩ ?_
  rintro ⟨f,i9,k⟩ ms d jd jp mt ⟨ci,cl,co,a3,cs,g2,a4,c1⟩
  try dsimp only at g2 a4 c1
  obtain rfl:List.length (α:=(U4×U4×K8)) k=ci:=c1.hl
  obtain ⟨jp,rfl⟩:=g2.open
  unfold rm at d
  refine ad fun _ g3=>ad fun _ g5=>?_
  refine ag 4 15 ?_
  refine aj rr rr<|aa.fieldAddr 2 q7 rr rr<|aX a4 4 rr rr rr (by omega) ed<|aR (a:=(f:Int)) (b:=(l:Int)) (p:=f < l) rr rr rr rr fE<|aa.fin g5 ?_;clear g5
  by_cases c2:f < l
  ·
   replace d:=aA d c2
   refine aG (congrArg Value.bool (decide_eq_true c2)) ?_
   refine W.skip ?_
   refine g3 _ _ ?_;clear g3
   refine ad fun _ g6=>?_
   refine W.block ?_
   refine ad fun _ g7=>ag 9 29 ?_
   refine aP a4 5 rr rr rr ba ?_
   obtain ⟨g9,i,kk,d⟩:=d
   refine aw oJ (pQ (iG1:=iG1+37) i2 (iG2:=iG2+37) i3 kk a4) ?_
   rintro _ m0 ⟨rfl,kw⟩
   refine ⟨_,rr,.inr ⟨rr,?_⟩⟩
   refine bK rr rr<|b5 rr rr rr<|b5 rr rr rr ?_
   refine aa.alloc kw rr c4 ae.nil fun m1 m2 m3 he=>?_
   simp only [ao,Nat.zero_add,Nat.reduceAdd,ah,ai] at he
   refine aa.alloc he rr c4 ae.nil fun m4 m5 m6 hi=>?_
   simp only [ao,Nat.zero_add,Nat.reduceAdd,ah,ai] at hi
   refine aY (f':=fun q=>VU .u8 (g9 q)) hi 1 rr rr rr rr (fun _ _=>rr) bP rr fun m7 hk=>?_
   simp only [ah,ai,aq,ar] at hk
   refine aY (f':=fun q=>VU .u8 (i q)) hk 0 rr rr rr rr (fun _ _=>rr) bP rr fun m8 hm=>?_
   simp only [ah,ai,aq,ar] at hm
   refine aa.fin g7 ?_;clear g7
   refine ad fun _ hu=>?_
   refine bd a7 [1,3,5,7,9,11,13,15,17,19,21,22,24,27,29,30] ?_
   have dl:=hm.drew
   refine aD rr rr<|aD rr rr<|aa.nilCheck rr rr<|aa.fieldAddr 343 gM rr rr<|aX dl 25 rr rr rr (by omega) hr<|bm tD rr rr<|aX dl 4 rr rr rr (by omega) bf<|aj rr rr ?_
   refine hQ .u32 (a:=f) jF e_ rr rr<|aP dl 0 rr rr rr ba ?_
   refine dt (ps:= [p4 g,p4 (BitVec.ofInt 32 f),p8 32 i]) yB (by decide) w5 rr rr (.one [] [p4 (0#32),p8 32 (fun _=>0#8)] (fun _=>VU .u32 (0#32)) rr rr (.one [p4 g] [p8 32 (fun _=>0#8)] (fun _=>VU .u32 (0#32)) rr rr (.agg [p4 g,p4 (BitVec.ofInt 32 f)] [p8 32 (fun _=>0#8)] [] [p8 32 i] rr rr .nil))) ?_
   refine iB (D:=bB) (sz:=34) dl [((),(g,(BitVec.ofInt 32 f),i))] kL yU Gf (by decide) (by decide) rr rr rr rr (fun _ _=>trivial) (av.keep (ae.cons 0 rr (ae.cons 4 rr (ae.cons 25 rr ae.nil)))) fun hw m9 lc m' em ld=>?_
   replace em:LO bB [] (some ⟨hw,0,none⟩) (some hw) ([(g,(BitVec.ofInt 32 f),i)]:aZ).length 1 lc ([(g,(BitVec.ofInt 32 f),i)]:aZ):=em.re (fun _ _ h=>h)
   obtain ⟨hH,d⟩:=d
   refine j9 (D:=bB) (X:=k) (Y:=([(g,(BitVec.ofInt 32 f),i)]:aZ)) (sz:=34) ld () (0#32,0#32,(fun _=>0#8)) 3 c1 rr o5 rr kL rr rr rr rr (cZ gg em 0 rr) (fun _ _ h=>h) hH.1 hH.2 (fun _=>av.mix _ (aH.keep rr (aH.keep rr (aH.drop rr aH.nil))) (ae.cons 1 rr (ae.cons 5 rr ae.nil))) fun hO h1 id ii ne eq io=>?_
   simp only [ah,ai,aq,ar] at io
   replace eq:LO bB [] hO h1 (k ++([(g,(BitVec.ofInt 32 f),i)]:aZ)).length id ii (k ++([(g,(BitVec.ofInt 32 f),i)]:aZ)):=eq.re (fun _ _ h=>h)
   refine aa.nilCheck rr rr<|aa.fieldAddr 343 gM rr rr ?_
   refine hY io 26 rr rr rr rr rr r3 rr fun nl es=>?_
   simp only [ah,ai,aq,ar] at es
   refine aa.fin hu ?_;clear hu
   refine ag 2 1 ?_
   refine aP es 2 rr rr rr ba ?_
   refine aY (f':=fun q=>VU .u8 (g9 q)) es 8 rr rr rr rr (fun _ _=>rr) bP rr fun no ip=>?_
   simp only [ah,ai,aq,ar] at ip
   refine aa.nil ?_
   refine bo ?_
   refine g6 _ _ ?_;clear g6
   refine ag 3 7 ?_
   refine aj rr rr ?_
   obtain ⟨n5,d⟩:=d
   refine iF (a:=f) (b:=1) rr rr rr (by omega)<|ak rr rr<|aa.nil ?_
   exact bG ⟨_,d,(k ++([(g,(BitVec.ofInt 32 f),i)]:aZ)).length,hO,h1,id,ii,(ab (ab (ab (ab (ab au))))),bt 40 [3,4,5,6,7,8,9,10,11,12,13,14,15,16,17,18,19,20,21,22,23,24,25,26,27,28,29,30,31,32,33,34,35,36,37,38,39] ip,eq⟩
  ·
   replace d:=az d c2
   refine aO (congrArg Value.bool (decide_eq_false c2)) ?_
   refine W.exit (bM (bU (bL ?_)))
   exact ⟨i9,k,(jd _ d).symm,k.length,cl,co,a3,cs,(ab (ab au)),bt 37 [0,1,5,6,7,8,9,10,11,12,13,14,15,16,17,18,19,20,21,22,23,24,25,26,27,28,29,30,31,32,33,34,35,36] a4,c1⟩
 ·
  rintro le n6 ⟨d8,d9,li,bv,cc,cd,a2,ce,lm,is,it⟩
  obtain ⟨le,rfl⟩:=lm.open
  cases li
  replace d:=i8
  obtain rfl:List.length (α:=(U4×U4×K8)) d7=bv:=it.hl
  refine gs _ _ ?_;clear gs
  refine ad fun _ i0=>ag 2 1 ?_
  refine aP is 2 rr rr rr ba ?_
  refine aY (f':=fun q=>VU .u8 (g0 q)) is 1 rr rr rr rr (fun _ _=>rr) bP rr fun n7 ex=>?_
  simp only [ah,ai,aq,ar] at ex
  refine aa.fin i0 ?_;clear i0
  refine W.ret (aB ?_)
  have i1:=St.aF (C:= [_,_,_,_,_,_,_,_,_,_,_,_,_,_,_,_,_,_,_,_,_,_,_,_,_,_,_,_,_,_,_,_,_,_]) ex [3,4,5,6,7,8,9,10,11,12,13,14,15,16,17,18,19,20,0,21,22,23,24,25,26,27,28,29,30,31,32,33] (by decide)
  simp only [pick,aL,aK,aM,aJ,ah,ai] at i1
  subst r
  refine ax.mk (.agg ex rr (.cons 1 rr .nil) ba .nil) ?_
  exact ⟨cc,cd,d7.length,a2,ce,am,ap,Z.length,j,a0,rr,i1,it,f1⟩
set_option maxRecDepth 8000 in
set_option maxHeartbeats 16000000 in
theorem Dv {B:Nat} {w0:aC} {w:World} {L:List Rg} {iG1:Nat} (bi:gT L iG1 1 8 .u32 cH) {iG2:Nat} (bv:gT L iG2 2 64 .u32 bE) {iG3:Nat} (k:gT L iG3 3 5 .u64 dn) {d:Nat} {l cd ce ci cl co cs:K8} {o s c1 t c2 u:U4} {v x:K8} {y:U4} {z:K8} {dl:aZ} {A:Option Addr} {D E he:Nat} (hk:LV bB L he A D E dl) {F G H I J:Int} {K:U4} {M:K8} {N:U4} {g:K8} {O P:U4} {ds:bb} {Q:Option Addr} {R S hm:Nat} (hu:LV cx L hm Q R S ds) {d0:K8} {r:(Nat×K8×K8×K8×K8×K8×K8×U4×U4×U4×U4)} (f:nM l cd ce ci cl co cs o s c1 t c2 u v x y z dl F G H I J K M N g O P ds d0 r) (hw:St B w0 (g8 d 0 16 l::g8 d 16 32 cd::g8 d 48 32 ce::g8 d 80 32 ci::g8 d 112 32 cl::g8 d 144 32 co::g8 d 176 32 cs::g4 d 208 o::g4 d 209 s::g4 d 210 c1::g4 d 211 t::g4 d 212 c2::g4 d 213 u::g8 d 214 32 v::g8 d 246 32 x::g4 d 278 y::g8 d 279 64 z::g1 d 343 (.slice A D E)::g1 d 344 (.int .i64 F)::g1 d 345 (.int .i64 G)::g1 d 346 (.int .i64 H)::g1 d 347 (.int .i64 I)::g1 d 348 (.int .i64 J)::g4 d 349 K::g8 d 350 16 M::g4 d 366 N::g8 d 367 32 g::g4 d 399 O::g4 d 400 P::g1 d 401 (.slice Q R S)::L) w):
  Calls Tryz.prog 97 #[pt d 0,AG [p8 32 d0]] w fun e w'=>e= .returned (VN r.1)∧St B w0 (g8 d 0 16 l::g8 d 16 32 r.2.1::g8 d 48 32 r.2.2.1::g8 d 80 32 r.2.2.2.1::g8 d 112 32 r.2.2.2.2.1::g8 d 144 32 r.2.2.2.2.2.1::g8 d 176 32 r.2.2.2.2.2.2.1::g4 d 208 r.2.2.2.2.2.2.2.1::g4 d 209 r.2.2.2.2.2.2.2.2.1::g4 d 210 r.2.2.2.2.2.2.2.2.2.1::g4 d 211 t::g4 d 212 r.2.2.2.2.2.2.2.2.2.2::g4 d 213 u::g8 d 214 32 v::g8 d 246 32 x::g4 d 278 y::g8 d 279 64 z::g1 d 343 (.slice A D E)::g1 d 344 (.int .i64 F)::g1 d 345 (.int .i64 G)::g1 d 346 (.int .i64 H)::g1 d 347 (.int .i64 I)::g1 d 348 (.int .i64 J)::g4 d 349 K::g8 d 350 16 M::g4 d 366 N::g8 d 367 32 g::g4 d 399 O::g4 d 400 P::g1 d 401 (.slice Q R S)::L) w':=by
 refine W.enter 119 Tryz.func97 rr rr rr ?_
 unfold nM at f
 have hH:=hk.hl;subst hH
 have hO:=hu.hl;subst hO
 refine ad fun _ d1=>ag 2 2 ?_
 refine bp hw rr rr ae.nil fun jd jp kk d2=>?_
 simp only [ao,Nat.zero_add,Nat.reduceAdd,ah,ai] at d2
 refine ak rr rr<|aa.fin d1 ?_;clear d1
 refine ad fun _ d3=>ag 4 15 ?_
 refine aD rr rr<|aa.nilCheck rr rr<|bm fx rr rr<|cA rr rr<|aa.fin d3 ?_;clear d3
 refine ad fun _ d4=>?_
 refine fy (B:=B) (L:=L) a7 [⟨14,6,27,[p8 32 (fun _=>0#8)]⟩] (dg [1,3,5,7,9,11,13,15,17,19]) [(dg [20,23,25,27])] (dg [30,33]) (by kernel_rfl) (by kernel_rfl) (.cons c4 .nil) ?_
 have T:=d2.drew
 refine aD rr rr<|aa.nilCheck rr rr<|aa.fieldAddr 48 nS rr rr<|bm kW rr rr<|aP T 3 rr rr rr ba<|aD rr rr<|aa.nilCheck rr rr<|aa.fieldAddr 350 e7 rr rr ?_
 refine aa.fieldAddr 17 l_ rr rr<|aP T 27 rr rr rr ba ?_
 refine aa.nil ⟨_,[_,_,_,_,_,_,_,_,_,_,_,_,_,_,_,_,_,_,_,_,_,_,_,_,_,_,_,_,_,_,_],T,(ae.cons 27 rr (ae.cons 3 rr ae.nil)),?_⟩
 refine PX.step fun d5 kw lc d6=>?_
 simp only [ah,ai] at d6
 obtain ⟨h1,U,id,f⟩:=f
 refine aw tu (r7 (iG3:=(iG3+d5.length)+31) (c_ k d5) id d6) ?_
 rintro _ ld ⟨rfl,ii⟩
 refine ⟨_,rr,.inr ⟨rr,?_⟩⟩
 refine bK rr rr<|b5 rr rr rr<|b' rr rr rr ?_
 refine aa.nil ⟨_,[_,_,_,_,_,_,_,_,_,_,_,_,_,_,_,_,_,_,_,_,_,_,_,_,_,_,_,_,_,_,_],ii,ae.nil,?_⟩
 refine PX.done (KE.step fun le=>(KE.fin fun li d7=>?_))
 simp only [ao,Nat.zero_add,Nat.reduceAdd,ah,ai] at d7
 refine aY (f':=fun q=>VU .u8 (h1 q)) d7 31 rr rr rr rr (fun _ _=>rr) bP rr fun lm V=>?_
 simp only [ah,ai,aq,ar] at V
 refine ak rr rr<|aa.fin d4 ?_;clear d4
 refine ad fun _ d8=>ad fun _ d9=>?_
 refine ag 2 3 ?_
 refine aj rr rr<|aR (a:=(((U:Nat):Int):Int)) (b:=(0:Int)) (p:=U≠0) rr rr rr rr cm<|aa.fin d9 ?_;clear d9
 by_cases h:U≠0
 ·
  replace f:=aA f h
  refine aG (congrArg Value.bool (decide_eq_true h)) ?_
  refine ad fun _ el=>ag 2 3 ?_
  refine aj rr rr<|ak rr rr<|aa.fin el ?_;clear el
  refine W.ret (a' (aB ?_))
  have em:=St.aF (C:= [_,_,_,_,_,_,_,_,_,_,_,_,_,_,_,_,_,_,_,_,_,_,_,_,_,_,_,_,_,_,_,_]) V [1,2,3,4,5,6,7,8,9,10,11,12,13,14,15,16,17,18,19,20,21,22,23,24,25,26,27,28,29,30] (by decide)
  simp only [pick,aL,aK,aM,aJ,ah,ai] at em
  subst r
  refine ax.mk (.bj rr .nil) ?_
  exact ⟨rr,em⟩
 ·
  replace f:=az f h
  refine aO (congrArg Value.bool (decide_eq_false h)) ?_
  refine W.skip ?_
  refine d8 _ _ ?_;clear d8
  refine ad fun _ eq=>?_
  refine bd a7 [1,3,5,7,9,11,13,14,17,19,21,23,25,26,29,31,32] ?_
  have Z:=V.drew
  refine aD rr rr<|aD rr rr<|aD rr rr<|aa.nilCheck rr rr<|aa.fieldAddr 16 l5 rr rr<|aP Z 2 rr rr rr ba<|aP Z 31 rr rr rr ba ?_
  obtain ⟨io,ip,is,f⟩:=f
  refine aw sI (sK (iG1:=iG1+32) bi (iG2:=iG2+32) bv is Z) ?_
  rintro _ ls ⟨rfl,it⟩
  refine ⟨_,rr,.inr ⟨rr,?_⟩⟩
  refine bK rr rr<|b5 rr rr rr<|b5 rr rr rr<|aa.nilCheck rr rr<|aa.fieldAddr 16 l5 rr rr ?_
  refine aY (f':=fun q=>VU .u8 (io q)) it 2 rr rr rr rr (fun _ _=>rr) bP rr fun lt es=>?_
  simp only [ah,ai,aq,ar] at es
  refine aa.nilCheck rr rr<|aa.fieldAddr 176 o2 rr rr ?_
  refine aY (f':=fun q=>VU .u8 (ip q)) es 7 rr rr rr rr (fun _ _=>rr) bP rr fun lw ex=>?_
  simp only [ah,ai,aq,ar] at ex
  refine aa.fin eq ?_;clear eq
  refine ad fun _ fd=>ad fun _ fn=>?_
  refine ag 10 763 ?_
  refine aD rr rr<|c8 (lo:=0) (hi:=32) (m:=32) (c:=32) (o':=0) c' rr rr rr rr (by omega) (by omega) (by omega) (by omega) ?_
  obtain ⟨i0,i1,am,i2,f⟩:=f
  refine aw va (yW (iG3:=iG3+32) k (by exact (bH (n:=32) (cc:=32) 0 rr (by omega) (by omega))) i2 ex) ?_
  rintro _ ec ⟨rfl,f0⟩
  refine ⟨_,rr,.inl ⟨ae.keep (by exact ae.nil) f0,?_⟩⟩
  refine bK rr rr<|b5 rr rr rr<|b' rr rr rr<|aa.nilCheck rr rr<|aa.fieldAddr 48 nS rr rr ?_
  refine bA (ps:= [p8 32 i0,p8 32 i1]) f0 rr rr rr (.cons 3 rr (.cons 4 rr .nil)) ⟨fun _ _=>rr,fun _ _=>rr,trivial⟩ iA (av.keep ae.nil) fun md ap=>?_
  simp only [ah,ai,aq,ar] at ap
  refine ak rr rr<|aa.fin fn ?_;clear fn
  refine ad fun _ f1=>ag 2 3 ?_
  refine aj rr rr<|aR (a:=(((am:Nat):Int):Int)) (b:=(0:Int)) (p:=am≠0) rr rr rr rr cm<|aa.fin f1 ?_;clear f1
  by_cases i:am≠0
  ·
   replace f:=aA f i
   refine aG (congrArg Value.bool (decide_eq_true i)) ?_
   refine ad fun _ f2=>ag 2 3 ?_
   refine aj rr rr<|ak rr rr<|aa.fin f2 ?_;clear f2
   refine W.ret (a' (aB ?_))
   have f3:=St.aF (C:= [_,_,_,_,_,_,_,_,_,_,_,_,_,_,_,_,_,_,_,_,_,_,_,_,_,_,_,_,_,_,_,_]) ap [1,2,3,4,5,6,7,8,9,10,11,12,13,14,15,16,17,18,19,20,21,22,23,24,25,26,27,28,29,30] (by decide)
   simp only [pick,aL,aK,aM,aJ,ah,ai] at f3
   subst r
   refine ax.mk (.bj rr .nil) ?_
   exact ⟨rr,f3⟩
  ·
   replace f:=az f i
   refine aO (congrArg Value.bool (decide_eq_false i)) ?_
   refine W.skip ?_
   refine fd _ _ ?_;clear fd
   refine ad fun _ f4=>?_
   refine fy (B:=B) (L:=L) a7 [⟨14,8,27,[p8 32 (fun _=>0#8)]⟩] (dg [1,3,5,7,9,11,13,15,17,19]) [(dg [20,23,25,27])] (dg [30,33]) (by kernel_rfl) (by kernel_rfl) (.cons c4 .nil) ?_
   have a0:=ap.drew
   refine aD rr rr<|aa.nilCheck rr rr<|aa.fieldAddr 48 nS rr rr<|bm kW rr rr<|aP a0 3 rr rr rr ba<|aD rr rr<|aa.nilCheck rr rr<|aa.fieldAddr 350 e7 rr rr ?_
   refine aa.fieldAddr 17 l_ rr rr<|aP a0 27 rr rr rr ba ?_
   refine aa.nil ⟨_,[_,_,_,_,_,_,_,_,_,_,_,_,_,_,_,_,_,_,_,_,_,_,_,_,_,_,_,_,_,_,_,_],a0,(ae.cons 27 rr (ae.cons 3 rr ae.nil)),?_⟩
   refine PX.step fun f5 z72 mp f6=>?_
   simp only [ah,ai] at f6
   obtain ⟨i3,a2,i4,f⟩:=f
   refine aw tu (r7 (iG3:=(iG3+f5.length)+32) (c_ k f5) i4 f6) ?_
   rintro _ ms ⟨rfl,i5⟩
   refine ⟨_,rr,.inr ⟨rr,?_⟩⟩
   refine bK rr rr<|b5 rr rr rr<|b' rr rr rr ?_
   refine aa.nil ⟨_,[_,_,_,_,_,_,_,_,_,_,_,_,_,_,_,_,_,_,_,_,_,_,_,_,_,_,_,_,_,_,_,_],i5,ae.nil,?_⟩
   refine PX.done (KE.step fun mt=>(KE.fin fun m0 f7=>?_))
   simp only [ao,Nat.zero_add,Nat.reduceAdd,ah,ai] at f7
   refine aY (f':=fun q=>VU .u8 (i3 q)) f7 32 rr rr rr rr (fun _ _=>rr) bP rr fun m1 a3=>?_
   simp only [ah,ai,aq,ar] at a3
   refine ak rr rr<|aa.fin f4 ?_;clear f4
   refine ad fun _ f8=>ad fun _ f9=>?_
   refine ag 2 3 ?_
   refine aj rr rr<|aR (a:=(((a2:Nat):Int):Int)) (b:=(0:Int)) (p:=a2≠0) rr rr rr rr cm<|aa.fin f9 ?_;clear f9
   by_cases j:a2≠0
   ·
    replace f:=aA f j
    refine aG (congrArg Value.bool (decide_eq_true j)) ?_
    refine ad fun _ gc=>ag 2 3 ?_
    refine aj rr rr<|ak rr rr<|aa.fin gc ?_;clear gc
    refine W.ret (a' (aB ?_))
    have gd:=St.aF (C:= [_,_,_,_,_,_,_,_,_,_,_,_,_,_,_,_,_,_,_,_,_,_,_,_,_,_,_,_,_,_,_,_,_]) a3 [1,2,3,4,5,6,7,8,9,10,11,12,13,14,15,16,17,18,19,20,21,22,23,24,25,26,27,28,29,30] (by decide)
    simp only [pick,aL,aK,aM,aJ,ah,ai] at gd
    subst r
    refine ax.mk (.bj rr .nil) ?_
    exact ⟨rr,gd⟩
   ·
    replace f:=az f j
    refine aO (congrArg Value.bool (decide_eq_false j)) ?_
    refine W.skip ?_
    refine f8 _ _ ?_;clear f8
    refine ad fun _ ge=>?_
    refine bd a7 [1,3,5,7,9,11,13,14,17,19,21,23,25,26,29,31,32] ?_
    have a4:=a3.drew
    refine aD rr rr<|aD rr rr<|aD rr rr<|aa.nilCheck rr rr<|aa.fieldAddr 16 l5 rr rr<|aP a4 2 rr rr rr ba<|aP a4 32 rr rr rr ba ?_
    obtain ⟨i6,i7,i8,f⟩:=f
    refine aw sI (sK (iG1:=iG1+33) bi (iG2:=iG2+33) bv i8 a4) ?_
    rintro _ m2 ⟨rfl,i9⟩
    refine ⟨_,rr,.inr ⟨rr,?_⟩⟩
    refine bK rr rr<|b5 rr rr rr<|b5 rr rr rr<|aa.nilCheck rr rr<|aa.fieldAddr 16 l5 rr rr ?_
    refine aY (f':=fun q=>VU .u8 (i6 q)) i9 2 rr rr rr rr (fun _ _=>rr) bP rr fun m3 go=>?_
    simp only [ah,ai,aq,ar] at go
    refine aa.nilCheck rr rr<|aa.fieldAddr 144 mc rr rr ?_
    refine aY (f':=fun q=>VU .u8 (i7 q)) go 6 rr rr rr rr (fun _ _=>rr) bP rr fun m4 gs=>?_
    simp only [ah,ai,aq,ar] at gs
    refine aa.fin ge ?_;clear ge
    refine ad fun _ gt=>?_
    refine bd a7 [1,3,5,7,9,11,13,15,17,19,21,23,25,27,28,31,33,34,37,39,40] ?_
    have a5:=gs.drew
    refine aD rr rr<|aD rr rr<|aD rr rr<|aD rr rr<|aa.nilCheck rr rr<|aa.fieldAddr 350 e7 rr rr<|aa.fieldAddr 17 l_ rr rr<|aP a5 27 rr rr rr ba ?_
    refine aD rr rr<|aa.nilCheck rr rr<|aa.fieldAddr 210 gR rr rr<|aX a5 10 rr rr rr (by omega) bf<|aa.nilCheck rr rr<|aa.fieldAddr 112 wL rr rr ?_
    refine aY (f':=fun q=>VU .u8 (g q)) a5 5 rr rr rr rr (fun _ _=>rr) bP rr fun m5 g0=>?_
    simp only [ah,ai,aq,ar] at g0
    refine aa.nilCheck rr rr<|aa.fieldAddr 212 vI rr rr ?_
    refine gn g0 12 rr rr rr rr fC rr fun m6 g2=>?_
    simp only [ah,ai,aq,ar] at g2
    refine aa.nilCheck rr rr<|aa.fieldAddr 210 gR rr rr ?_
    refine gn g2 10 rr rr rr rr fC rr fun m7 a9=>?_
    simp only [ah,ai,aq,ar] at a9
    refine aa.fin gt ?_;clear gt
    refine ad fun _ g3=>ag 8 127 ?_
    refine aD rr rr<|aa.nilCheck rr rr<|aa.fieldAddr 208 gz rr rr<|aX a9 8 rr rr rr (by omega) bf<|cD .u32 (X:=o) (Y:=1#32) rr rr rr<|aa.nilCheck rr rr<|aa.fieldAddr 208 gz rr rr ?_
    refine gn a9 8 rr rr rr rr fC rr fun m8 be=>?_
    simp only [ah,ai,aq,ar] at be
    refine aa.fin g3 ?_;clear g3
    refine ad fun _ g5=>ag 8 127 ?_
    refine aD rr rr<|aa.nilCheck rr rr<|aa.fieldAddr 209 e8 rr rr<|aX be 9 rr rr rr (by omega) bf<|cD .u32 (X:=s) (Y:=1#32) rr rr rr<|aa.nilCheck rr rr<|aa.fieldAddr 209 e8 rr rr ?_
    refine gn be 9 rr rr rr rr fC rr fun m9 g6=>?_
    simp only [ah,ai,aq,ar] at g6
    refine aa.fin g5 ?_;clear g5
    refine ad fun _ g7=>ag 1 1 ?_
    refine ak rr rr<|aa.fin g7 ?_;clear g7
    refine W.ret (aB ?_)
    have g9:=St.aF (C:= [_,_,_,_,_,_,_,_,_,_,_,_,_,_,_,_,_,_,_,_,_,_,_,_,_,_,_,_,_,_,_,_,_]) g6 [1,2,3,4,5,6,7,8,9,10,11,12,13,14,15,16,17,18,19,20,21,22,23,24,25,26,27,28,29,30] (by decide)
    simp only [pick,aL,aK,aM,aJ,ah,ai] at g9
    subst r
    refine ax.mk (.bj rr .nil) ?_
    exact ⟨rr,g9⟩
set_option maxRecDepth 8000 in
set_option maxHeartbeats 16000000 in
theorem Gj {B:Nat} {w0:aC} {w:World} {L:List Rg} {iG1:Nat} (t:gT L iG1 1 8 .u32 cH) {iG2:Nat} (u:gT L iG2 2 64 .u32 bE) {iG3:Nat} (ty:gT L iG3 3 5 .u64 dn) {c:Nat} {v a4 a5 a9 be bi bv:K8} {cc k cd ce ci x:U4} {y z:K8} {A:U4} {E:K8} {l:aZ} {cl:Option Addr} {co:Option Nat} {i4 F:Nat} {cs:Nat→Value} (c1:LO bB [] cl co i4 F cs l) {G H I J K:Int} {M:U4} {N:K8} {g:U4} {O:K8} {P m:U4} {f:bb} {c2:Option Addr} {dl:Option Nat} {i5 Q:Nat} {ds:Nat→Value} (h:LO cx [] c2 dl i5 Q ds f) {d0:List af} {d1:Option Addr} {i6 d2 t0:Nat} (i7:Bx L t0 d1 i6 d2 d0) {d3:List af} {d4:Option Addr} {i8 d5 t1:Nat} (i9:Bx L t1 d4 i8 d5 d3) {f7:K8} {r:((List af)×Nat×K8×K8×K8×K8×K8×K8×U4×U4×U4×U4×U4×(aZ)×(bb))} (d:k6 v a4 a5 a9 be bi bv cc k cd ce ci x y z A E l G H I J K M N g O P m f d0 d3 f7 r) (t2:St B w0 (g8 c 0 16 v::g8 c 16 32 a4::g8 c 48 32 a5::g8 c 80 32 a9::g8 c 112 32 be::g8 c 144 32 bi::g8 c 176 32 bv::g4 c 208 cc::g4 c 209 k::g4 c 210 cd::g4 c 211 ce::g4 c 212 ci::g4 c 213 x::g8 c 214 32 y::g8 c 246 32 z::g4 c 278 A::g8 c 279 64 E::g1 c 343 (.slice cl i4 F)::gL co (F*34) cs::g1 c 344 (.int .i64 G)::g1 c 345 (.int .i64 H)::g1 c 346 (.int .i64 I)::g1 c 347 (.int .i64 J)::g1 c 348 (.int .i64 K)::g4 c 349 M::g8 c 350 16 N::g4 c 366 g::g8 c 367 32 O::g4 c 399 P::g4 c 400 m::g1 c 401 (.slice c2 i5 Q)::gL dl (Q*3) ds::L) w):
  Calls Tryz.prog 63 #[pt c 0,.slice d1 i6 d2,.slice d4 i8 d5,AG [p8 32 f7]] w fun e w'=>∃jd:Option Addr,∃jp:Option Nat,∃kw f8:Nat,∃lc:Nat→af,∃ld:Option Addr,∃le:Option Nat,∃li f9:Nat,∃lm:Nat→Value,∃lo:Option Addr,∃ls:Option Nat,∃lt gc:Nat,∃lw:Nat→Value,e= .returned (.tuple #[.slice jd kw f8,VN r.2.1])∧St B w0 (gO jp f8 lc::g8 c 0 16 v::g8 c 16 32 r.2.2.1::g8 c 48 32 r.2.2.2.1::g8 c 80 32 r.2.2.2.2.1::g8 c 112 32 r.2.2.2.2.2.1::g8 c 144 32 r.2.2.2.2.2.2.1::g8 c 176 32 r.2.2.2.2.2.2.2.1::g4 c 208 r.2.2.2.2.2.2.2.2.1::g4 c 209 r.2.2.2.2.2.2.2.2.2.1::g4 c 210 r.2.2.2.2.2.2.2.2.2.2.1::g4 c 211 r.2.2.2.2.2.2.2.2.2.2.2.1::g4 c 212 r.2.2.2.2.2.2.2.2.2.2.2.2.1::g4 c 213 x::g8 c 214 32 y::g8 c 246 32 z::g4 c 278 A::g8 c 279 64 E::g1 c 343 (.slice ld li f9)::gL le (f9*34) lm::g1 c 344 (.int .i64 G)::g1 c 345 (.int .i64 H)::g1 c 346 (.int .i64 I)::g1 c 347 (.int .i64 J)::g1 c 348 (.int .i64 K)::g4 c 349 M::g8 c 350 16 N::g4 c 366 g::g8 c 367 32 O::g4 c 399 P::g4 c 400 m::g1 c 401 (.slice lo lt gc)::gL ls (gc*3) lw::L) w'∧Ow jd jp kw f8 lc r.1∧LO bB [] ld le li f9 lm r.2.2.2.2.2.2.2.2.2.2.2.2.2.1∧LO cx [] lo ls lt gc lw r.2.2.2.2.2.2.2.2.2.2.2.2.2.2:=by
 refine W.enter 116 Tryz.func63 rr rr rr ?_
 unfold k6 at d
 have t3:=c1.hl;subst t3
 have t4:=h.hl;subst t4
 have t5:=i7.hl;subst t5
 have t6:=i9.hl;subst t6
 refine ad fun _ md=>ag 3 6 ?_
 refine bp t2 rr rr ae.nil fun mp Hl Hm ms=>?_
 simp only [ao,Nat.zero_add,Nat.reduceAdd,ah,ai] at ms
 refine aV rr rr<|ak rr rr<|aa.fin md ?_;clear md
 refine ad fun _ mt=>?_
 refine bd a7 [1,3,5,7,9,11,13,15,17,19,21,23,24,26] ?_
 have R:=ms.drew
 refine aD rr rr<|aa.nilCheck rr rr<|aa.fieldAddr 401 gC rr rr<|aX R 31 rr rr rr (by omega) jh<|aD rr rr<|aa.nilCheck rr rr<|aa.fieldAddr 401 gC rr rr<|aX R 31 rr rr rr (by omega) jh ?_
 refine aa.len nW rr rr ?_
 obtain ⟨Hn,d⟩:=d
 refine d' (a:=((f.length:Nat):Int)) (b:=1) rr rr rr (by omega) ?_
 obtain ⟨S,d⟩:=d
 refine f_ (D:=cx) (j:=(((f.length:Nat):Int) - 1).toNat) R (cZ fp h 32 rr) p6 rr rr (congrArg (Value.int .i64) (Int.toNat_of_nonneg S.1).symm) (toNat_lt S.1 S.2) ?_
 refine ht (D:=cx) (X:=f) (j:=(((f.length:Nat):Int) - 1).toNat) (sz:=3) R (0#32,(0:Int),(0:Int)) (cZ fp h 32 rr) rr rr (toNat_lt S.1 S.2) rr l1 fun Ho Hp Hq t7=>?_
 refine aa.alloc R rr j7 (ae.cons 32 t7 (ae.cons 31 rr (ae.cons 31 rr ae.nil))) fun i Hr Hs m0=>?_
 simp only [ao,Nat.zero_add,Nat.reduceAdd,ah,ai] at m0
 refine bA (ps:= [p4 ((f.getD ((((f.length:Nat):Int) - 1).toNat) (0#32,(0:Int),(0:Int))).1),p1 (.int .i64 ((f.getD ((((f.length:Nat):Int) - 1).toNat) (0#32,(0:Int),(0:Int))).2.1)),p1 (.int .i64 ((f.getD ((((f.length:Nat):Int) - 1).toNat) (0#32,(0:Int),(0:Int))).2.2))]) m0 rr rr rr (.cons 0 rr (.cons 1 rr (.cons 2 rr .nil))) ⟨fun _ _=>rr,fun _ _=>rr,fun _ _=>rr,trivial⟩ j5 (av.wait rr) fun Ht m1=>?_
 simp only [ah,ai,aq,ar] at m1
 refine aa.fin mt ?_;clear mt
 refine ad fun _ m2=>?_
 obtain ⟨t8,t9,t',ul,un,up,us,ut,v0,v1,v2,m3,m4,v3,v4⟩:=d
 refine bq (fun e w=>∃gd ge go gs gt g0:K8,∃g2 g3 g5 g6:U4,∃g7:aZ,∃g9:bb,(t8=true∧t9=gd∧t'=ge∧ul=go∧un=gs∧up=gt∧us=g0∧ut=g2∧v0=g3∧v1=g5∧v2=g6∧m3=g7∧m4=g9)∧∃d6:Nat,∃he:Option Addr,∃hi:Option Nat,∃d7:Nat,∃hk:Nat→Value,∃d8:Nat,∃hm:Option Addr,∃hu:Option Nat,∃d9:Nat,∃hw:Nat→Value,aU e [(0,pt c 0),(1,.slice d1 d0.length d2),(2,.slice d4 d3.length d5),(10,pt i 0)]∧St B w0 (gL hi (d7*34) hk::gL hu (d9*3) hw::g8 c 0 16 v::g8 c 16 32 gd::g8 c 48 32 ge::g8 c 80 32 go::g8 c 112 32 gs::g8 c 144 32 gt::g8 c 176 32 g0::g4 c 208 g2::g4 c 209 g3::g4 c 210 g5::g4 c 211 ce::g4 c 212 g6::g4 c 213 x::g8 c 214 32 y::g8 c 246 32 z::g4 c 278 A::g8 c 279 64 E::g1 c 343 (.slice he d6 d7)::g1 c 344 (.int .i64 G)::g1 c 345 (.int .i64 H)::g1 c 346 (.int .i64 I)::g1 c 347 (.int .i64 J)::g1 c 348 (.int .i64 K)::g4 c 349 M::g8 c 350 16 N::g4 c 366 g::g8 c 367 32 O::g4 c 399 P::g4 c 400 m::g1 c 401 (.slice hm d8 d9)::g4 i 0 ((f.getD ((((f.length:Nat):Int) - 1).toNat) (0#32,(0:Int),(0:Int))).1)::g1 i 1 (.int .i64 ((f.getD ((((f.length:Nat):Int) - 1).toNat) (0#32,(0:Int),(0:Int))).2.1))::g1 i 2 (.int .i64 ((f.getD ((((f.length:Nat):Int) - 1).toNat) (0#32,(0:Int),(0:Int))).2.2))::L) w∧LO bB [] he hi d6 d7 hk g7∧LO cx [] hm hu d8 d9 hw g9) ?_ ?_
 ·
  replace d:=v3
  refine ad fun _ m5=>?_
  refine bd a7 [1,3,5,7,9,11,13,15,17,19,21] ?_
  have n:=m1.drew
  refine aD rr rr<|aa.nilCheck rr rr<|aa.fieldAddr 350 e7 rr rr<|aa.fieldAddr 16 gi rr rr<|aX n 30 rr rr rr (by omega) bf<|aD rr rr<|aa.nilCheck rr rr<|bm fx rr rr ?_
  refine aa.fieldAddr 209 e8 rr rr<|aX n 12 rr rr rr (by omega) bf<|aR (a:=(g.toNat:Int)) (b:=(k.toNat:Int)) (p:=g=k) rr rr rr rr ih<|aa.fin m5 ?_;clear m5
  by_cases el:g=k
  ·
   replace d:=aA d el
   refine aG (congrArg Value.bool (decide_eq_true el)) ?_
   refine ad fun _ m6=>?_
   obtain ⟨T,U,v5,v6⟩:=d
   refine bq (fun e w=>∃hH:aZ,∃hO:bb,(T=hH∧U=hO)∧∃em:Nat,∃V:Option Addr,∃Z:Option Nat,∃o:Nat,∃am:Nat→Value,∃eq:Nat,∃ap:Option Addr,∃a0:Option Nat,∃s:Nat,∃a2:Nat→Value,aU e [(0,pt c 0),(1,.slice d1 d0.length d2),(2,.slice d4 d3.length d5),(7,pt mp 0),(10,pt i 0)]∧St B w0 (gL Z (o*34) am::gL a0 (s*3) a2::g8 c 0 16 v::g8 c 16 32 a4::g8 c 48 32 a5::g8 c 80 32 a9::g8 c 112 32 be::g8 c 144 32 bi::g8 c 176 32 bv::g4 c 208 cc::g4 c 209 k::g4 c 210 cd::g4 c 211 ce::g4 c 212 ci::g4 c 213 x::g8 c 214 32 y::g8 c 246 32 z::g4 c 278 A::g8 c 279 64 E::g1 c 343 (.slice V em o)::g1 c 344 (.int .i64 G)::g1 c 345 (.int .i64 H)::g1 c 346 (.int .i64 I)::g1 c 347 (.int .i64 J)::g1 c 348 (.int .i64 K)::g4 c 349 M::g8 c 350 16 N::g4 c 366 g::g8 c 367 32 O::g4 c 399 P::g4 c 400 m::g1 c 401 (.slice ap eq s)::g4 i 0 ((f.getD ((((f.length:Nat):Int) - 1).toNat) (0#32,(0:Int),(0:Int))).1)::g1 i 1 (.int .i64 ((f.getD ((((f.length:Nat):Int) - 1).toNat) (0#32,(0:Int),(0:Int))).2.1))::g1 i 2 (.int .i64 ((f.getD ((((f.length:Nat):Int) - 1).toNat) (0#32,(0:Int),(0:Int))).2.2))::g8 mp 0 32 f7::L) w∧LO bB [] V Z em o am hH∧LO cx [] ap a0 eq s a2 hO) ?_ ?_
   ·
    replace d:=v5
    refine ad fun _ m7=>ag 6 63 ?_
    refine aD rr rr<|aa.nilCheck rr rr<|aa.fieldAddr 401 gC rr rr<|aX n 34 rr rr rr (by omega) jh<|aa.len nW rr rr<|aR (a:=(((f.length:Nat):Int):Int)) (b:=(1:Int)) (p:=1 < f.length) rr rr rr rr dL<|aa.fin m7 ?_;clear m7
    by_cases es:1 < f.length
    ·
     replace d:=aA d es
     refine aG (congrArg Value.bool (decide_eq_true es)) ?_
     refine bd a7 [1,3,5,7,9,11,13,15,17,18,21,23,24] ?_
     have a3:=n.drew
     refine aD rr rr<|aD rr rr<|aa.nilCheck rr rr<|bm fx rr rr<|aa.fieldAddr 176 o2 rr rr<|aP a3 10 rr rr rr ba<|aD rr rr<|aa.nilCheck rr rr ?_
     refine aa.fieldAddr 401 gC rr rr<|nT<|aX a3 34 rr rr rr (by omega) jh<|aa.nil ?_
     obtain ⟨m8,d⟩:=d
     refine f_ (D:=cx) (j:=0) a3 (cZ fp h 35 rr) p6 rr rr rr m8 ?_
     refine ht (D:=cx) (X:=f) (j:=0) (sz:=3) a3 (0#32,(0:Int),(0:Int)) (cZ fp h 35 rr) rr rr m8 rr l1 fun Hu Hv Hw Hx=>?_
     have m9:=St.aF (C:= [_,_,_,_,_,_,_,_,_,_,_,_,_,_,_,_,_,_,_,_,_,_,_,_,_,_,_,_,_,_,_,_,_,_,_,_]) a3 [4,5,6,7,8,9,10,11,12,13,14,15,16,17,18,19,20,21,22,23,24,25,26,27,28,29,30,31,32,33,34,35,0,1,2,3] (by decide)
     simp only [pick,aL,aK,aM,aJ,ah,ai] at m9
     obtain ⟨Hy,m',ne,v9,d⟩:=d
     refine aw v_ (xa (iG1:=iG1+4) t (iG2:=iG2+4) u (by exact c1) (by exact h) v9 m9) ?_
     rintro _ Hz ⟨wd,wf,HA,wl,wn,wp,wr,HB,ws,wt,rfl,ww,h1,id⟩
     try dsimp only at h1 id
     obtain rfl:=h1.hl
     obtain rfl:=id.hl
     refine ⟨_,rr,.inr ⟨rr,?_⟩⟩
     refine aa.nil ?_
     exact ⟨m',ne,d,m'.length,wd,wf,wl,wn,ne.length,wp,wr,ws,wt,(ab (ab (ab (ab (ab au))))),bt 36 [18,31,0,1,2,3,4,5,6,7,8,9,10,11,12,13,14,15,16,17,19,20,21,22,23,24,25,26,27,28,29,30,32,33,34,35] ww,h1,id⟩
    ·
     replace d:=az d es
     refine aO (congrArg Value.bool (decide_eq_false es)) ?_
     refine W.skip ?_
     exact ⟨l,f,d,l.length,cl,co,F,cs,f.length,c2,dl,Q,ds,(ab (ab (ab (ab (ab au))))),bt 36 [22,35,4,5,6,7,8,9,10,11,12,13,14,15,16,17,18,19,20,21,23,24,25,26,27,28,29,30,31,32,33,34,0,1,2,3] n,c1,h⟩
   ·
    rintro xs HC ⟨hH,hO,⟨zf,z0⟩,em,V,Z,o,am,eq,ap,a0,s,a2,z1,nl,ex,fd⟩
    subst zf
    subst z0
    obtain rfl:List.length (α:=(U4×U4×K8)) T=em:=ex.hl
    obtain rfl:List.length (α:=(U4×Int×Int)) U=eq:=fd.hl
    obtain ⟨xs,rfl⟩:=z1.open
    replace d:=v6
    refine m6 _ _ ?_;clear m6
    refine ad fun _ no=>ag 4 11 ?_
    refine aD rr rr<|aP nl 35 rr rr rr ba ?_
    have n5:=St.aF (C:= [_,_,_,_,_,_,_,_,_,_,_,_,_,_,_,_,_,_,_,_,_,_,_,_,_,_,_,_,_,_,_,_,_,_,_,_]) nl [2,3,4,5,6,7,8,9,10,11,12,13,14,15,16,17,18,19,20,21,22,23,24,25,26,27,28,29,30,31,0,1,32,33,34,35] (by decide)
    simp only [pick,aL,aK,aM,aJ,ah,ai] at n5
    obtain ⟨ii,z2,z3,z4,z5,z9,At,AC,Do,Eq,EQ,Fd,d⟩:=d
    refine aw z' (Dv (iG1:=iG1+6) t (iG2:=iG2+6) u (iG3:=iG3+6) ty (by exact (cZ gg ex 0 rr)) (by exact (cZ fp fd 1 rr)) Fd n5) ?_
    rintro _ HD ⟨rfl,n6⟩
    refine ⟨_,rr,.inr ⟨rr,?_⟩⟩
    refine ak rr rr<|aa.fin no ?_;clear no
    refine ad fun _ n7=>ag 2 3 ?_
    refine aj rr rr<|aR (a:=(((ii:Nat):Int):Int)) (b:=(0:Int)) (p:=ii≠0) rr rr rr rr cm<|aa.fin n7 ?_;clear n7
    by_cases fn:ii≠0
    ·
     replace d:=aA d fn
     refine aG (congrArg Value.bool (decide_eq_true fn)) ?_
     refine ad fun _ n8=>ag 3 7 ?_
     refine aj rr rr<|aV rr rr<|ak rr rr<|aa.fin n8 ?_;clear n8
     refine W.ret (a' (a' (aB ?_)))
     have Fn:=n6.cN
     have ok:=St.aF (C:= [_,_,_,_,_,_,_,_,_,_,_,_,_,_,_,_,_,_,_,_,_,_,_,_,_,_,_,_,_,_,_,_,_,_,_,_,_]) Fn [0,1,2,3,4,5,6,7,8,9,10,11,12,13,14,15,16,17,18,31,19,20,21,22,23,24,25,26,27,28,29,30,32] (by decide)
     simp only [pick,aL,aK,aM,aJ,ah,ai] at ok
     replace d:=d.2
     subst r
     refine ax.mk (.bD rr (.bj rr .nil)) ?_
     exact ⟨none,none,0,0,(fun _=>0#8),V,Z,T.length,o,am,ap,a0,U.length,s,a2,rr,ok,Ow.nil,ex,fd⟩
    ·
     replace d:=az d fn
     refine aO (congrArg Value.bool (decide_eq_false fn)) ?_
     refine W.skip ?_
     exact ⟨z2,z3,z4,z5,z9,At,AC,Do,Eq,EQ,T,U,d,T.length,V,Z,o,am,U.length,ap,a0,s,a2,(ab (ab (ab (ab au)))),bt 36 [30,31,0,1,2,3,4,5,6,7,8,9,10,11,12,13,14,15,16,17,18,19,20,21,22,23,24,25,26,27,28,29,32,33,34] n6,ex,fd⟩
  ·
   replace d:=az d el
   refine aO (congrArg Value.bool (decide_eq_false el)) ?_
   refine W.skip ?_
   exact ⟨a4,a5,a9,be,bi,bv,cc,k,cd,ci,l,f,d,l.length,cl,co,F,cs,f.length,c2,dl,Q,ds,(ab (ab (ab (ab au)))),bt 36 [22,35,4,5,6,7,8,9,10,11,12,13,14,15,16,17,18,19,20,21,23,24,25,26,27,28,29,30,31,32,33,34,0,1,2] n,c1,h⟩
 ·
  rintro Fr HE ⟨gd,ge,go,gs,gt,g0,g2,g3,g5,g6,g7,g9,⟨FS,Go,GE,GO,GP,GQ,GR,GS,GT,GU,GV,GW,GX⟩,d6,he,hi,d7,hk,d8,hm,hu,d9,hw,GY,GZ,ol,on⟩
  subst Go
  subst GE
  subst GO
  subst GP
  subst GQ
  subst GR
  subst GS
  subst GT
  subst GU
  subst GV
  subst GW
  subst GX
  obtain rfl:List.length (α:=(U4×U4×K8)) m3=d6:=ol.hl
  obtain rfl:List.length (α:=(U4×Int×Int)) m4=d8:=on.hl
  obtain ⟨Fr,rfl⟩:=GY.open
  replace d:=v4 FS
  refine m2 _ _ ?_;clear m2
  refine ad fun _ op=>?_
  refine fy (B:=B) (L:=L) a7 [⟨12,12,27,[p8 32 (fun _=>0#8)]⟩,⟨13,13,27,[p8 32 (fun _=>0#8)]⟩] (dg [1,3,5,7,9,11,13]) [(dg [14]),(dg [16,19,21,23])] (dg [28,30]) (by kernel_rfl) (by kernel_rfl) (.cons c4 (.cons c4 .nil)) ?_
  have io:=GZ.drew
  refine aD rr rr<|aD rr rr<|aa.nilCheck rr rr<|bm fx rr rr<|aa.fieldAddr 176 o2 rr rr<|aP io 8 rr rr rr ba<|bO io rr rr (.cons 32 rr (.cons 33 rr (.cons 34 rr .nil))) l1 ?_
  refine aa.nil ⟨_,[_,_,_,_,_,_,_,_,_,_,_,_,_,_,_,_,_,_,_,_,_,_,_,_,_,_,_,_,_,_,_,_,_,_,_],io,(ae.parts (.cons 32 rr (.cons 33 rr (.cons 34 rr .nil))) (ae.cons 8 rr ae.nil)),?_⟩
  refine PX.step fun f0 HF HG or=>?_
  simp only [ah,ai] at or
  have os:=St.aF (C:= [_,_,_,_,_,_,_,_,_,_,_,_,_,_,_,_,_,_,_,_,_,_,_,_,_,_,_,_,_,_,_,_,_,_,_]) or [2,3,4,5,6,7,8,9,10,11,12,13,14,15,16,17,18,19,0,20,21,22,23,24,25,26,27,28,29,30,31,1,32,33,34] (by decide)
  simp only [pick,aL,aK,aM,aJ,ah,ai] at os
  obtain ⟨HH,f1,o',G0,d⟩:=d
  refine aw v_ (xa (iG1:=(iG1+f0.length)+3) (c_ t f0) (iG2:=(iG2+f0.length)+3) (c_ u f0) (by exact ol) (by exact on) G0 os) ?_
  rintro _ HI ⟨ip,pi,HJ,is,G1,pl,pm,HK,pp,pu,rfl,G2,f2,f3⟩
  try dsimp only at f2 f3
  obtain rfl:=f2.hl
  obtain rfl:=f3.hl
  refine ⟨_,rr,.inr ⟨rr,?_⟩⟩
  refine aa.nil ⟨_,[_,_,_,_,_,_,_,_,_,_,_,_,_,_,_,_,_,_,_,_,_,_,_,_,_,_,_,_,_,_,_,_,_,_,_],G2,ae.nil,?_⟩
  refine PX.step fun f4 z222 HL qr=>?_
  simp only [ah,ai] at qr
  obtain ⟨rc,G3,G4,d⟩:=d
  refine aw oJ (pQ (iG1:=(iG1+f4.length)+35) (c_ t f4) (iG2:=(iG2+f4.length)+35) (c_ u f4) G4 qr) ?_
  rintro _ HM ⟨rfl,rd⟩
  refine ⟨_,rr,.inl ⟨ae.keep (by exact ae.nil) rd,?_⟩⟩
  refine bK rr rr<|b5 rr rr rr<|b5 rr rr rr ?_
  refine aa.nil ⟨_,[_,_,_,_,_,_,_,_,_,_,_,_,_,_,_,_,_,_,_,_,_,_,_,_,_,_,_,_,_,_,_,_,_,_,_],rd,ae.nil,?_⟩
  refine PX.done (KE.step fun HN=>(KE.step fun HO=>(KE.fin fun HP rg=>?_)))
  simp only [ao,Nat.zero_add,Nat.reduceAdd,ah,ai] at rg
  refine aY (f':=fun q=>VU .u8 (rc q)) rg 35 rr rr rr rr (fun _ _=>rr) bP rr fun HQ ro=>?_
  simp only [ah,ai,aq,ar] at ro
  refine aY (f':=fun q=>VU .u8 (G3 q)) ro 36 rr rr rr rr (fun _ _=>rr) bP rr fun HR rs=>?_
  simp only [ah,ai,aq,ar] at rs
  refine aa.fin op ?_;clear op
  refine ad fun _ rt=>?_
  refine bd a7 [1,3,5,7,9,11,13,15,17,19,23,20,24,27,29,31,33,35] ?_
  have f5:=rs.drew
  refine aP f5 36 rr rr rr ba<|aD rr rr<|aa.nilCheck rr rr<|bm fx rr rr<|bO f5 rr rr (.cons 0 rr (.cons 1 rr (.cons 2 rr (.cons 3 rr (.cons 4 rr (.cons 5 rr (.cons 6 rr (.cons 7 rr (.cons 8 rr (.cons 9 rr (.cons 10 rr (.cons 11 rr (.cons 12 rr (.cons 13 rr (.cons 14 rr (.cons 15 rr (.cons 16 rr .nil))))))))))))))))) (by kernel_rfl)<|aD rr rr<|aa.nilCheck rr rr<|aa.fieldAddr 350 e7 rr rr ?_
  refine bO f5 rr rr (.cons 25 rr (.cons 26 rr (.cons 27 rr (.cons 28 rr (.cons 29 rr .nil))))) ei<|aE rr rr<|aE rr rr ?_
  obtain ⟨HS,G5,d⟩:=d
  refine dm se (sy (i9.app [_,_,_,_,_,_,_,_,_,_,_,_,_,_,_,_,_,_,_,_,_,_,_,_,_,_,_,_,_,_,_,_,_,_,_,_,_]) G5 f5) ?_
  rintro _ HT ⟨HU,HV,HW,HX,HY,rfl,rx,sp⟩
  obtain rfl:=sp.hl
  refine ⟨_,rr,_,_,_,_,rx,(by exact (av.mix _ (aH.drop rr (aH.drop rr (aH.keep rr aH.nil))) (ae.cons 37 rr ae.nil))),?_⟩
  obtain ⟨G6,it,G7,d⟩:=d
  refine aw vQ (x1 (iG1:=iG1+38) t (iG2:=iG2+38) u (by exact (sp.bx 0 rr)) (i7.app [_,_,_,_,_,_,_,_,_,_,_,_,_,_,_,_,_,_,_,_,_,_,_,_,_,_,_,_,_,_,_,_,_,_,_,_,_,_]) G7 rx) ?_
  rintro _ HZ ⟨G8,G9,H1,G_,G',rfl,i0,i1⟩
  try dsimp only at i1
  obtain rfl:=i1.hl
  refine ⟨_,rr,.inr ⟨rr,?_⟩⟩
  refine bK rr rr<|dh rr rr rr<|b' rr rr rr<|aV rr rr<|ak rr rr<|aa.fin rt ?_;clear rt
  refine ad fun _ st=>ad fun _ s1=>?_
  refine ag 2 3 ?_
  refine aj rr rr<|aR (a:=(((it:Nat):Int):Int)) (b:=(0:Int)) (p:=it≠0) rr rr rr rr cm<|aa.fin s1 ?_;clear s1
  by_cases f6:it≠0
  ·
   replace d:=aA d f6
   refine aG (congrArg Value.bool (decide_eq_true f6)) ?_
   refine ad fun _ s2=>ag 3 7 ?_
   refine aj rr rr<|aV rr rr<|ak rr rr<|aa.fin s2 ?_;clear s2
   refine W.ret (a' (aB ?_))
   have Ha:=i0.cN
   have s3:=St.aF (C:= [_,_,_,_,_,_,_,_,_,_,_,_,_,_,_,_,_,_,_,_,_,_,_,_,_,_,_,_,_,_,_,_,_,_,_,_,_,_,_,_]) Ha [0,3,4,5,6,7,8,9,10,11,12,13,14,15,16,17,18,19,20,21,22,23,24,25,26,27,28,29,30,31,32,33,34] (by decide)
   simp only [pick,aL,aK,aM,aJ,ah,ai] at s3
   subst r
   refine ax.mk (.bD rr (.bj rr .nil)) ?_
   exact ⟨none,none,0,0,(fun _=>0#8),ip,pi,f1.length,is,G1,pl,pm,o'.length,pp,pu,rr,s3,Ow.nil,f2,f3⟩
  ·
   replace d:=az d f6
   refine aO (congrArg Value.bool (decide_eq_false f6)) ?_
   refine W.skip ?_
   refine st _ _ ?_;clear st
   refine ad fun _ s4=>ag 6 31 ?_
   refine aD rr rr<|aP i0 37 rr rr rr ba<|aa.nilCheck rr rr<|bm fx rr rr<|aa.fieldAddr 176 o2 rr rr ?_
   refine aY (f':=fun q=>VU .u8 (rc q)) i0 8 rr rr rr rr (fun _ _=>rr) bP rr fun H2 i2=>?_
   simp only [ah,ai,aq,ar] at i2
   refine aa.fin s4 ?_;clear s4
   refine ad fun _ s5=>ag 11 1023 ?_
   refine aD rr rr<|aD rr rr<|aa.nilCheck rr rr<|aa.fieldAddr 350 e7 rr rr<|aa.fieldAddr 50 gl rr rr<|aX i2 31 rr rr rr (by omega) bf<|cD .u32 (X:=m) (Y:=1#32) rr rr rr<|aa.nilCheck rr rr ?_
   refine bm fx rr rr<|aa.fieldAddr 211 r8 rr rr ?_
   refine gn i2 12 rr rr rr rr fC rr fun H3 i3=>?_
   simp only [ah,ai,aq,ar] at i3
   refine aa.fin s5 ?_;clear s5
   refine ad fun _ s6=>ag 5 15 ?_
   refine aD rr rr<|aa.nilCheck rr rr<|aa.fieldAddr 343 gM rr rr<|aX i3 19 rr rr rr (by omega) hr ?_
   obtain ⟨Hb,d⟩:=d
   obtain ⟨Hc,He,Hf,d⟩:=d
   refine aa.call (vs:= [.slice ip f1.length is,.func (.func 58) #[] #[]]) rr zw rr (FK (D:=bB) (L0:= []) GC Tryz.isAgg81 Tryz.sizeOf81 (enters_of Tryz.func58 (by kernel_rfl) rr) i3 f2 (kk:=20) rr Hc Hf (fun _ _=>rr) (fun B w0 L' w H4 Hg H5 Hh hs _ _=>pP (He Hg Hh) hs) (fun _ _ _ hs=>gg _ _ _ _ hs) Hb (by decide)) ?_
   rintro _ H6 ⟨rfl,s7,Hi,s8,Hj,Hk,s9⟩
   simp only [ah,ai,aq,ar] at s9
   replace d:=d s7 s8 Hj
   have H7:s7.length=f1.length:=s8.length_eq
   refine ⟨_,rr,.inr ⟨rr,?_⟩⟩
   refine aa.fin s6 ?_;clear s6
   refine ad fun _ s'=>ag 3 7 ?_
   refine aE rr rr<|aV rr rr<|ak rr rr<|aa.fin s' ?_;clear s'
   refine W.ret (aB ?_)
   have to:=St.aF (C:= [_,_,_,_,_,_,_,_,_,_,_,_,_,_,_,_,_,_,_,_,_,_,_,_,_,_,_,_,_,_,_,_,_,_,_,_,_,_,_]) s9 [0,2,3,4,5,6,7,8,9,10,11,12,13,14,15,16,17,18,19,20,21,22,23,24,25,26,27,28,29,30,31,32,33] (by decide)
   simp only [pick,aL,aK,aM,aJ,ah,ai] at to
   subst r
   refine ax.mk (.bD rr (.bj rr .nil)) ?_
   exact ⟨G8,G9,G6.length,G_,G',ip,pi,f1.length,is,Hi,pl,pm,o'.length,pp,pu,rr,to,i1,Hk,f3⟩
set_option maxRecDepth 8000 in
set_option maxHeartbeats 16000000 in
theorem FL {B:Nat} {w0:aC} {w:World} {L:List Rg} {iG1:Nat} (a3:gT L iG1 1 8 .u32 cH) {iG2:Nat} (a4:gT L iG2 2 64 .u32 bE) {iG3:Nat} (hO:gT L iG3 3 5 .u64 dn) {c:Nat} {q a5 a9 be bi bv cc:K8} {cd ce ci cl co s:U4} {t u:K8} {v:U4} {x:K8} {cs:aZ} {c1:Option Addr} {c2:Option Nat} {dl y:Nat} {ds:Nat→Value} (f:LO bB [] c1 c2 dl y ds cs) {z A D E F:Int} {G:U4} {H:K8} {I:U4} {J:K8} {K M:U4} {d0:bb} {d1:Option Addr} {d2:Option Nat} {d3 N:Nat} {d4:Nat→Value} (g:LO cx [] d1 d2 d3 N d4 d0) {d5:List af} {d6:Option Addr} {d7 d8 h1:Nat} (O:Bx L h1 d6 d7 d8 d5) {d9:List af} {el:Option Addr} {em eq id:Nat} (P:Bx L id el em eq d9) {es:K8} {r:((List af)×Nat×K8×K8×K8×K8×K8×K8×U4×U4×U4×U4×U4×(aZ)×(bb))} (d:nD q a5 a9 be bi bv cc cd ce ci cl co s t u v x cs z A D E F G H I J K M d0 d5 d9 es r) (ii:St B w0 (g8 c 0 16 q::g8 c 16 32 a5::g8 c 48 32 a9::g8 c 80 32 be::g8 c 112 32 bi::g8 c 144 32 bv::g8 c 176 32 cc::g4 c 208 cd::g4 c 209 ce::g4 c 210 ci::g4 c 211 cl::g4 c 212 co::g4 c 213 s::g8 c 214 32 t::g8 c 246 32 u::g4 c 278 v::g8 c 279 64 x::g1 c 343 (.slice c1 dl y)::gL c2 (y*34) ds::g1 c 344 (.int .i64 z)::g1 c 345 (.int .i64 A)::g1 c 346 (.int .i64 D)::g1 c 347 (.int .i64 E)::g1 c 348 (.int .i64 F)::g4 c 349 G::g8 c 350 16 H::g4 c 366 I::g8 c 367 32 J::g4 c 399 K::g4 c 400 M::g1 c 401 (.slice d1 d3 N)::gL d2 (N*3) d4::L) w):
  Calls Tryz.prog 34 #[pt c 0,.slice d6 d7 d8,.slice el em eq,AG [p8 32 es]] w fun e w'=>∃ex:Option Addr,∃fd:Option Nat,∃fn Q:Nat,∃f0:Nat→af,∃f1:Option Addr,∃f2:Option Nat,∃f3 R:Nat,∃f4:Nat→Value,∃f5:Option Addr,∃f6:Option Nat,∃f7 S:Nat,∃f8:Nat→Value,e= .returned (.tuple #[.slice ex fn Q,VN r.2.1])∧St B w0 (gO fd Q f0::g8 c 0 16 q::g8 c 16 32 r.2.2.1::g8 c 48 32 r.2.2.2.1::g8 c 80 32 r.2.2.2.2.1::g8 c 112 32 r.2.2.2.2.2.1::g8 c 144 32 r.2.2.2.2.2.2.1::g8 c 176 32 r.2.2.2.2.2.2.2.1::g4 c 208 r.2.2.2.2.2.2.2.2.1::g4 c 209 r.2.2.2.2.2.2.2.2.2.1::g4 c 210 r.2.2.2.2.2.2.2.2.2.2.1::g4 c 211 r.2.2.2.2.2.2.2.2.2.2.2.1::g4 c 212 r.2.2.2.2.2.2.2.2.2.2.2.2.1::g4 c 213 s::g8 c 214 32 t::g8 c 246 32 u::g4 c 278 v::g8 c 279 64 x::g1 c 343 (.slice f1 f3 R)::gL f2 (R*34) f4::g1 c 344 (.int .i64 z)::g1 c 345 (.int .i64 A)::g1 c 346 (.int .i64 D)::g1 c 347 (.int .i64 E)::g1 c 348 (.int .i64 F)::g4 c 349 G::g8 c 350 16 H::g4 c 366 I::g8 c 367 32 J::g4 c 399 K::g4 c 400 M::g1 c 401 (.slice f5 f7 S)::gL f6 (S*3) f8::L) w'∧Ow ex fd fn Q f0 r.1∧LO bB [] f1 f2 f3 R f4 r.2.2.2.2.2.2.2.2.2.2.2.2.2.1∧LO cx [] f5 f6 f7 S f8 r.2.2.2.2.2.2.2.2.2.2.2.2.2.2:=by
 refine W.enter 37 Tryz.func34 rr rr rr ?_
 unfold nD at d
 have io:=f.hl;subst io
 have ip:=g.hl;subst ip
 have is:=O.hl;subst is
 have it:=P.hl;subst it
 refine ad fun _ f9=>ag 3 6 ?_
 refine bp ii rr rr ae.nil fun rc rd rg f'=>?_
 simp only [ao,Nat.zero_add,Nat.reduceAdd,ah,ai] at f'
 refine aV rr rr<|ak rr rr<|aa.fin f9 ?_;clear f9
 refine ad fun _ gc=>ad fun _ gd=>?_
 refine ag 2 1 ?_
 refine aD rr rr ?_
 have ge:=St.aF (C:= [_,_,_,_,_,_,_,_,_,_,_,_,_,_,_,_,_,_,_,_,_,_,_,_,_,_,_,_,_,_,_,_,_]) f' [1,2,3,4,5,6,7,8,9,10,11,12,13,14,15,16,17,18,20,21,22,23,24,25,26,27,28,29,30,31,0,19,32] (by decide)
 simp only [pick,aL,aK,aM,aJ,ah,ai] at ge
 obtain ⟨i0,i1,d⟩:=d
 refine aw Ee (Bf (by exact (cZ gg f 1 rr)) (by exact (cZ fp g 2 rr)) i1 ge) ?_
 rintro _ ro ⟨rfl,T⟩
 refine ⟨_,rr,.inl ⟨ae.keep (by exact ae.nil) T,?_⟩⟩
 refine aa.fin gd ?_;clear gd
 by_cases h:i0=true
 ·
  replace d:=aA d h
  refine aG (congrArg Value.bool h) ?_
  refine ad fun _ go=>ag 8 247 ?_
  refine aD rr rr<|aE rr rr<|aE rr rr ?_
  have gs:=St.aF (C:= [_,_,_,_,_,_,_,_,_,_,_,_,_,_,_,_,_,_,_,_,_,_,_,_,_,_,_,_,_,_,_,_,_]) T [0,1,2,3,4,5,6,7,8,9,10,11,12,13,14,15,16,17,31,18,19,20,21,22,23,24,25,26,27,28,29,32,30] (by decide)
  simp only [pick,aL,aK,aM,aJ,ah,ai] at gs
  obtain ⟨i2,rs,i3,i4,i5,d⟩:=d
  refine aw Bi (ze (iG1:=iG1+1) a3 (iG2:=iG2+1) a4 (by exact f) (by exact g) (O.app [_]) (P.app [_]) i5 gs) ?_
  rintro _ rt ⟨i6,i7,rx,i8,i9,jd,jp,sp,kk,kw,lc,ld,st,le,li,rfl,gt,U,V,X⟩
  try dsimp only at U V X
  obtain rfl:=V.hl
  obtain rfl:=X.hl
  obtain rfl:=U.hl
  refine ⟨_,rr,.inl ⟨ae.keep (by exact ae.nil) gt,?_⟩⟩
  refine dh rr rr rr<|b' rr rr rr<|aV rr rr<|ak rr rr<|aa.fin go ?_;clear go
  refine W.ret (a' (aB ?_))
  have g0:=St.aF (C:= [_,_,_,_,_,_,_,_,_,_,_,_,_,_,_,_,_,_,_,_,_,_,_,_,_,_,_,_,_,_,_,_,_,_]) gt [0,1,2,3,4,5,6,7,8,9,10,11,12,13,14,15,16,17,18,19,20,21,22,23,24,25,26,27,28,29,30,31,32] (by decide)
  simp only [pick,aL,aK,aM,aJ,ah,ai] at g0
  subst r
  refine ax.mk (.bD rr (.bj rr .nil)) ?_
  exact ⟨i6,i7,i2.length,i8,i9,jd,jp,i3.length,kk,kw,lc,ld,i4.length,le,li,rr,g0,U,V,X⟩
 ·
  replace d:=az d h
  refine aO (congrArg Value.bool (Bool.eq_false_iff.2 h)) ?_
  refine W.skip ?_
  refine gc _ _ ?_;clear gc
  refine ad fun _ g2=>ad fun _ g3=>?_
  refine ag 3 5 ?_
  refine aD rr rr ?_
  have g5:=St.aF (C:= [_,_,_,_,_,_,_,_,_,_,_,_,_,_,_,_,_,_,_,_,_,_,_,_,_,_,_,_,_,_,_,_,_]) T [0,1,2,3,4,5,6,7,8,9,10,11,12,13,14,15,16,17,31,18,19,20,21,22,23,24,25,26,27,28,29,32,30] (by decide)
  simp only [pick,aL,aK,aM,aJ,ah,ai] at g5
  obtain ⟨Y,lm,lo,ls,d⟩:=d
  refine aw AH (AL (by exact f) (by exact g) ls g5) ?_
  rintro _ sz ⟨lt,lw,s1,md,mp,ms,mt,s2,m0,m1,rfl,Z,i,j⟩
  try dsimp only at i j
  obtain rfl:=i.hl
  obtain rfl:=j.hl
  refine ⟨_,rr,.inl ⟨ae.keep (by exact ae.nil) Z,?_⟩⟩
  refine ak rr rr<|aa.fin g3 ?_;clear g3
  refine ad fun _ g6=>ag 2 3 ?_
  refine aj rr rr<|aR (a:=(((Y:Nat):Int):Int)) (b:=(0:Int)) (p:=Y≠0) rr rr rr rr cm<|aa.fin g6 ?_;clear g6
  by_cases k:Y≠0
  ·
   replace d:=aA d k
   refine aG (congrArg Value.bool (decide_eq_true k)) ?_
   refine ad fun _ g7=>ag 3 7 ?_
   refine aj rr rr<|aV rr rr<|ak rr rr<|aa.fin g7 ?_;clear g7
   refine W.ret (a' (aB ?_))
   have m2:=Z.cN
   have g9:=St.aF (C:= [_,_,_,_,_,_,_,_,_,_,_,_,_,_,_,_,_,_,_,_,_,_,_,_,_,_,_,_,_,_,_,_,_,_]) m2 [0,1,2,3,4,5,6,7,8,9,10,11,12,13,14,15,16,17,18,19,20,21,22,23,24,25,26,27,28,29,30,31,32] (by decide)
   simp only [pick,aL,aK,aM,aJ,ah,ai] at g9
   subst r
   refine ax.mk (.bD rr (.bj rr .nil)) ?_
   exact ⟨none,none,0,0,(fun _=>0#8),lt,lw,lm.length,md,mp,ms,mt,lo.length,m0,m1,rr,g9,Ow.nil,i,j⟩
  ·
   replace d:=az d k
   refine aO (congrArg Value.bool (decide_eq_false k)) ?_
   refine W.skip ?_
   refine g2 _ _ ?_;clear g2
   refine ad fun _ he=>ad fun _ hi=>?_
   refine ag 3 5 ?_
   refine aD rr rr ?_
   obtain ⟨am,m3,m4,m5,d⟩:=d
   refine aw CN (zu (by exact i) (by exact j) m5 Z) ?_
   rintro _ s3 ⟨m6,m7,s4,m8,m9,m',ne,s5,nl,no,rfl,l,m,n⟩
   try dsimp only at m n
   obtain rfl:=m.hl
   obtain rfl:=n.hl
   refine ⟨_,rr,.inl ⟨ae.keep (by exact ae.nil) l,?_⟩⟩
   refine ak rr rr<|aa.fin hi ?_;clear hi
   refine ad fun _ hk=>ag 2 3 ?_
   refine aj rr rr<|aR (a:=(((am:Nat):Int):Int)) (b:=(0:Int)) (p:=am≠0) rr rr rr rr cm<|aa.fin hk ?_;clear hk
   by_cases o:am≠0
   ·
    replace d:=aA d o
    refine aG (congrArg Value.bool (decide_eq_true o)) ?_
    refine ad fun _ hm=>ag 3 7 ?_
    refine aj rr rr<|aV rr rr<|ak rr rr<|aa.fin hm ?_;clear hm
    refine W.ret (a' (aB ?_))
    have n5:=l.cN
    have hu:=St.aF (C:= [_,_,_,_,_,_,_,_,_,_,_,_,_,_,_,_,_,_,_,_,_,_,_,_,_,_,_,_,_,_,_,_,_,_]) n5 [0,1,2,3,4,5,6,7,8,9,10,11,12,13,14,15,16,17,18,19,20,21,22,23,24,25,26,27,28,29,30,31,32] (by decide)
    simp only [pick,aL,aK,aM,aJ,ah,ai] at hu
    subst r
    refine ax.mk (.bD rr (.bj rr .nil)) ?_
    exact ⟨none,none,0,0,(fun _=>0#8),m6,m7,m3.length,m8,m9,m',ne,m4.length,nl,no,rr,hu,Ow.nil,m,n⟩
   ·
    replace d:=az d o
    refine aO (congrArg Value.bool (decide_eq_false o)) ?_
    refine W.skip ?_
    refine he _ _ ?_;clear he
    refine ad fun _ hw=>ag 9 495 ?_
    refine aD rr rr<|aE rr rr<|aE rr rr<|aP l 32 rr rr rr ba ?_
    obtain ⟨n6,s6,s7,s8,s9,s',to,ty,t0,t1,t2,t3,t4,n7,n8,ok,d⟩:=d
    refine aw DS (Gj (iG1:=iG1+1) a3 (iG2:=iG2+1) a4 (iG3:=iG3+1) hO (by exact m) (by exact n) (O.app [_]) (P.app [_]) ok l) ?_
    rintro _ t5 ⟨ol,on,t6,op,or,os,o',t7,pi,pl,pm,pp,t8,ps,pu,rfl,qr,ap,a0,a2⟩
    try dsimp only at ap a0 a2
    obtain rfl:=a0.hl
    obtain rfl:=a2.hl
    obtain rfl:=ap.hl
    refine ⟨_,rr,.inr ⟨rr,?_⟩⟩
    refine dh rr rr rr<|b' rr rr rr<|aV rr rr<|ak rr rr<|aa.fin hw ?_;clear hw
    refine W.ret (aB ?_)
    have hH:=St.aF (C:= [_,_,_,_,_,_,_,_,_,_,_,_,_,_,_,_,_,_,_,_,_,_,_,_,_,_,_,_,_,_,_,_,_,_]) qr [0,1,2,3,4,5,6,7,8,9,10,11,12,13,14,15,16,17,18,19,20,21,22,23,24,25,26,27,28,29,30,31,32] (by decide)
    simp only [pick,aL,aK,aM,aJ,ah,ai] at hH
    subst r
    refine ax.mk (.bD rr (.bj rr .nil)) ?_
    exact ⟨ol,on,n6.length,op,or,os,o',n7.length,pi,pl,pm,pp,n8.length,ps,pu,rr,hH,ap,a0,a2⟩
set_option maxRecDepth 8000 in
set_option maxHeartbeats 16000000 in
theorem xC {B:Nat} {w0:aC} {w:World} {L:List Rg} {iG1:Nat} (i2:gT L iG1 1 8 .u32 cH) {iG2:Nat} (i3:gT L iG2 2 64 .u32 bE) {iG3:Nat} (i4:gT L iG3 3 5 .u64 dn) {j n o q s t u:K8} {x y z A D l:U4} {E F:K8} {G:U4} {m:K8} {U:aZ} {V:Option Addr} {em X i5:Nat} (co:LV bB L i5 V em X U) {J K g h M:Int} {N:U4} {I:K8} {P:U4} {Q:K8} {R S:U4} {Y:List af} {Z:Option Addr} {eq am i6:Nat} (es:Bx L i6 Z eq am Y) {O:List af} {ap:Option Addr} {ex a0 i7:Nat} (fd:Bx L i7 ap ex a0 O) {a2:K8} {r:(K8×K8×K8×K8×K8×K8×K8×U4×U4×U4×U4×U4×U4×K8×K8×U4×K8×(aZ)×(List af)×Nat)} (c:l3 j n o q s t u x y z A D l E F G m U J K g h M N I P Q R S Y O a2 r) (i8:St B w0 (L) w):
  Calls Tryz.prog 17 #[AG [p8 16 j,p8 32 n,p8 32 o,p8 32 q,p8 32 s,p8 32 t,p8 32 u,p4 x,p4 y,p4 z,p4 A,p4 D,p4 l,p8 32 E,p8 32 F,p4 G,p8 64 m],.slice V em X,AG [p1 (.int .i64 J),p1 (.int .i64 K),p1 (.int .i64 g),p1 (.int .i64 h),p1 (.int .i64 M),p4 N],AG [p8 16 I,p4 P,p8 32 Q,p4 R,p4 S],.slice Z eq am,.slice ap ex a0,AG [p8 32 a2]] w fun e w'=>∃fn:Option Addr,∃f0:Option Nat,∃f1 cs:Nat,∃f2:Nat→Value,∃f3:Option Addr,∃f4:Option Nat,∃f5 c1:Nat,∃f6:Nat→af,e= .returned (.tuple #[AG [p8 16 r.1,p8 32 r.2.1,p8 32 r.2.2.1,p8 32 r.2.2.2.1,p8 32 r.2.2.2.2.1,p8 32 r.2.2.2.2.2.1,p8 32 r.2.2.2.2.2.2.1,p4 r.2.2.2.2.2.2.2.1,p4 r.2.2.2.2.2.2.2.2.1,p4 r.2.2.2.2.2.2.2.2.2.1,p4 r.2.2.2.2.2.2.2.2.2.2.1,p4 r.2.2.2.2.2.2.2.2.2.2.2.1,p4 r.2.2.2.2.2.2.2.2.2.2.2.2.1,p8 32 r.2.2.2.2.2.2.2.2.2.2.2.2.2.1,p8 32 r.2.2.2.2.2.2.2.2.2.2.2.2.2.2.1,p4 r.2.2.2.2.2.2.2.2.2.2.2.2.2.2.2.1,p8 64 r.2.2.2.2.2.2.2.2.2.2.2.2.2.2.2.2.1],.slice fn f1 cs,.slice f3 f5 c1,VN r.2.2.2.2.2.2.2.2.2.2.2.2.2.2.2.2.2.2.2])∧St B w0 (gL f0 (cs*34) f2::gO f4 c1 f6::L) w'∧LO bB [] fn f0 f1 cs f2 r.2.2.2.2.2.2.2.2.2.2.2.2.2.2.2.2.2.1∧Ow f3 f4 f5 c1 f6 r.2.2.2.2.2.2.2.2.2.2.2.2.2.2.2.2.2.2.1:=by
 refine W.enter 92 Tryz.func17 rr rr rr ?_
 unfold l3 at c
 have i9:=co.hl;subst i9
 have jd:=es.hl;subst jd
 have jp:=fd.hl;subst jp
 refine ad fun _ f7=>ag 8 224 ?_
 refine bp i8 rr rr ae.nil fun d pl pm f8=>?_
 simp only [ao,Nat.zero_add,Nat.reduceAdd,ah,ai] at f8
 refine bp f8 rr rr ae.nil fun i pp pu f9=>?_
 simp only [ao,Nat.zero_add,Nat.reduceAdd,ah,ai] at f9
 refine bp f9 rr rr ae.nil fun k qr rc f'=>?_
 simp only [ao,Nat.zero_add,Nat.reduceAdd,ah,ai] at f'
 refine bp f' rr rr ae.nil fun a3 rd rg gc=>?_
 simp only [ao,Nat.zero_add,Nat.reduceAdd,ah,ai] at gc
 refine aa.alloc gc rr eu ae.nil fun f ro rs H=>?_
 simp only [ao,Nat.zero_add,Nat.reduceAdd,ah,ai] at H
 refine aV rr rr<|aV rr rr<|ak rr rr<|aa.fin f7 ?_;clear f7
 refine ad fun _ gd=>ag 1 1 ?_
 refine ak rr rr<|aa.fin gd ?_;clear gd
 refine ad fun _ ge=>?_
 obtain ⟨a4,kk,kw⟩:=c
 refine bq (fun e w=>∃c2:Nat,(a4=c2)∧aU e [(1,.slice V U.length X),(4,.slice Z Y.length am),(5,.slice ap O.length a0),(7,pt d 0),(9,pt i 0),(10,pt k 0),(13,pt a3 0),(14,pt f 0),(18,VN c2)]∧St B w0 (g8 f 0 16 (fun _=>0#8)::g8 f 16 32 (fun _=>0#8)::g8 f 48 32 (fun _=>0#8)::g8 f 80 32 (fun _=>0#8)::g8 f 112 32 (fun _=>0#8)::g8 f 144 32 (fun _=>0#8)::g8 f 176 32 (fun _=>0#8)::g4 f 208 (0#32)::g4 f 209 (0#32)::g4 f 210 (0#32)::g4 f 211 (0#32)::g4 f 212 (0#32)::g4 f 213 (0#32)::g8 f 214 32 (fun _=>0#8)::g8 f 246 32 (fun _=>0#8)::g4 f 278 (0#32)::g8 f 279 64 (fun _=>0#8)::g8 a3 0 32 a2::g8 k 0 16 I::g4 k 16 P::g8 k 17 32 Q::g4 k 49 R::g4 k 50 S::g1 i 0 (.int .i64 J)::g1 i 1 (.int .i64 K)::g1 i 2 (.int .i64 g)::g1 i 3 (.int .i64 h)::g1 i 4 (.int .i64 M)::g4 i 5 N::g8 d 0 16 j::g8 d 16 32 n::g8 d 48 32 o::g8 d 80 32 q::g8 d 112 32 s::g8 d 144 32 t::g8 d 176 32 u::g4 d 208 x::g4 d 209 y::g4 d 210 z::g4 d 211 A::g4 d 212 D::g4 d 213 l::g8 d 214 32 E::g8 d 246 32 F::g4 d 278 G::g8 d 279 64 m::L) w) ?_ ?_
 ·
  replace c:=kk
  refine W.block ?_
  refine ad fun _ go=>?_
  obtain ⟨t67,lc,ld⟩:=c
  refine bq (fun e w=>∃dl:Bool,(t67=dl)∧aU e [(1,.slice V U.length X),(4,.slice Z Y.length am),(5,.slice ap O.length a0),(7,pt d 0),(9,pt i 0),(10,pt k 0),(13,pt a3 0),(14,pt f 0),(18,VN 0),(21,.bool dl)]∧St B w0 (g8 f 0 16 (fun _=>0#8)::g8 f 16 32 (fun _=>0#8)::g8 f 48 32 (fun _=>0#8)::g8 f 80 32 (fun _=>0#8)::g8 f 112 32 (fun _=>0#8)::g8 f 144 32 (fun _=>0#8)::g8 f 176 32 (fun _=>0#8)::g4 f 208 (0#32)::g4 f 209 (0#32)::g4 f 210 (0#32)::g4 f 211 (0#32)::g4 f 212 (0#32)::g4 f 213 (0#32)::g8 f 214 32 (fun _=>0#8)::g8 f 246 32 (fun _=>0#8)::g4 f 278 (0#32)::g8 f 279 64 (fun _=>0#8)::g8 a3 0 32 a2::g8 k 0 16 I::g4 k 16 P::g8 k 17 32 Q::g4 k 49 R::g4 k 50 S::g1 i 0 (.int .i64 J)::g1 i 1 (.int .i64 K)::g1 i 2 (.int .i64 g)::g1 i 3 (.int .i64 h)::g1 i 4 (.int .i64 M)::g4 i 5 N::g8 d 0 16 j::g8 d 16 32 n::g8 d 48 32 o::g8 d 80 32 q::g8 d 112 32 s::g8 d 144 32 t::g8 d 176 32 u::g4 d 208 x::g4 d 209 y::g4 d 210 z::g4 d 211 A::g4 d 212 D::g4 d 213 l::g8 d 214 32 E::g8 d 246 32 F::g4 d 278 G::g8 d 279 64 m::L) w) ?_ ?_
  ·
   replace c:=lc
   refine ag 19 524287 ?_
   refine aa.fieldAddr 2 r9 rr rr<|aX H 25 rr rr rr (by omega) ed ?_
   by_cases a5:g < 0
   ·
    replace c:=aA c a5
    refine bI (a:=(g:Int)) (b:=(0:Int)) (p:=g < 0) (v:=true) rr rr rr rr fE (decide_eq_true a5)<|a_ rr rr<|al rr<|al rr<|al rr<|b0 rr rr rr<|a_ rr rr<|al rr ?_
    refine al rr<|al rr<|b0 rr rr rr<|a_ rr rr<|al rr<|al rr<|al rr<|b0 rr rr rr ?_
    refine a8 rr rr<|aa.nil ?_
    exact ⟨true,c,(ab (ab (ab (ab (ab (ab (ab (ab (ab (ab au)))))))))),H⟩
   ·
    replace c:=az c a5
    refine bI (a:=(g:Int)) (b:=(0:Int)) (p:=g < 0) (v:=false) rr rr rr rr fE (decide_eq_false a5)<|a_ rr rr<|aa.fieldAddr 2 r9 rr rr<|aX H 25 rr rr rr (by omega) ed ?_
    by_cases a9:64 < g
    ·
     replace c:=aA c a9
     refine bI (a:=(g:Int)) (b:=(64:Int)) (p:=64 < g) (v:=true) rr rr rr rr fw (decide_eq_true a9)<|ca rr rr rr<|a_ rr rr<|al rr<|al rr<|al rr<|b0 rr rr rr<|a_ rr rr ?_
     refine al rr<|al rr<|al rr<|b0 rr rr rr<|a8 rr rr<|aa.nil ?_
     exact ⟨true,c,(ab (ab (ab (ab (ab (ab (ab (ab (ab (ab au)))))))))),H⟩
    ·
     replace c:=az c a9
     refine bI (a:=(g:Int)) (b:=(64:Int)) (p:=64 < g) (v:=false) rr rr rr rr fw (decide_eq_false a9)<|ca rr rr rr<|a_ rr rr<|aa.fieldAddr 3 sw rr rr<|aX H 26 rr rr rr (by omega) ed ?_
     by_cases be:h < 0
     ·
      replace c:=aA c be
      refine bI (a:=(h:Int)) (b:=(0:Int)) (p:=h < 0) (v:=true) rr rr rr rr fE (decide_eq_true be)<|ca rr rr rr<|a_ rr rr<|al rr<|al rr<|al rr<|b0 rr rr rr<|a8 rr rr ?_
      refine aa.nil ?_
      exact ⟨true,c,(ab (ab (ab (ab (ab (ab (ab (ab (ab (ab au)))))))))),H⟩
     ·
      replace c:=az c be
      refine bI (a:=(h:Int)) (b:=(0:Int)) (p:=h < 0) (v:=false) rr rr rr rr fE (decide_eq_false be)<|ca rr rr rr<|a_ rr rr<|aa.fieldAddr 3 sw rr rr<|aX H 26 rr rr rr (by omega) ed<|aR (a:=(h:Int)) (b:=(256:Int)) (p:=256 < h) rr rr rr rr fw<|ca rr rr rr<|a8 rr rr ?_
      refine aa.nil ?_
      exact ⟨(decide (256 < h)),c,(ab (ab (ab (ab (ab (ab (ab (ab (ab (ab au)))))))))),H⟩
  ·
   rintro le rt ⟨dl,li,lm,ds⟩
   subst li
   obtain ⟨le,rfl⟩:=lm.open
   replace c:=ld
   refine go _ _ ?_;clear go
   by_cases bi:t67=true
   ·
    replace c:=aA c bi
    refine aG (congrArg Value.bool bi) ?_
    refine ag 1 1 ?_
    refine ak rr rr<|aa.nil ?_
    refine bo ?_
    exact ⟨2,c,(ab (ab (ab (ab (ab (ab (ab (ab (ab au))))))))),ds⟩
   ·
    replace c:=az c bi
    refine aO (congrArg Value.bool (Bool.eq_false_iff.2 bi)) ?_
    refine ad fun _ gs=>ag 4 15 ?_
    refine aE rr rr<|aa.len cB rr rr<|aR (a:=(((O.length:Nat):Int):Int)) (b:=(64:Int)) (p:=64 < O.length) rr rr rr rr dL<|a8 rr rr<|aa.fin gs ?_;clear gs
    by_cases bv:64 < O.length
    ·
     replace c:=aA c bv
     refine aG (congrArg Value.bool (decide_eq_true bv)) ?_
     refine ag 1 1 ?_
     refine ak rr rr<|aa.nil ?_
     refine bo ?_
     exact ⟨5,c,(ab (ab (ab (ab (ab (ab (ab (ab (ab au))))))))),ds⟩
    ·
     replace c:=az c bv
     refine aO (congrArg Value.bool (decide_eq_false bv)) ?_
     refine ad fun _ gt=>ag 4 13 ?_
     refine aE rr rr ?_
     obtain ⟨lo,ls,c⟩:=c
     refine aw D0 (y3 (by exact (co.app [_,_,_,_,_,_,_,_,_,_,_,_,_,_,_,_,_,_,_,_,_,_,_,_,_,_,_,_,_,_,_,_,_,_,_,_,_,_,_,_,_,_,_,_,_,_])) ls ds) ?_
     rintro _ rx ⟨rfl,T⟩
     refine ⟨_,rr,.inl ⟨ae.keep (by exact ae.nil) T,?_⟩⟩
     refine aa.not rr rr<|a8 rr rr<|aa.fin gt ?_;clear gt
     by_cases cc:lo=true
     ·
      replace c:=aA c cc
      refine aO (congrArg Value.bool (congrArg Bool.not cc)) ?_
      refine ad fun _ g0=>ag 6 63 ?_
      refine bm ur rr rr<|aP T 18 rr rr rr hJ<|bm q2 rr rr<|aP T 29 rr rr rr hJ<|s0 (b:=(c9 16 I j)) uM rr rr rr rr<|a8 rr rr<|aa.fin g0 ?_;clear g0
      by_cases cd:(c9 16 I j)=true
      ·
       replace c:=aA c cd
       refine aO (congrArg Value.bool (congrArg Bool.not cd)) ?_
       refine W.skip ?_
       refine bo ?_
       exact ⟨0,c,(ab (ab (ab (ab (ab (ab (ab (ab (ab au))))))))),T⟩
      ·
       replace c:=az c cd
       refine aG (congrArg Value.bool (congrArg Bool.not (Bool.eq_false_iff.2 cd))) ?_
       refine ag 1 1 ?_
       refine ak rr rr<|aa.nil ?_
       refine bo ?_
       exact ⟨160,c,(ab (ab (ab (ab (ab (ab (ab (ab (ab au))))))))),T⟩
     ·
      replace c:=az c cc
      refine aG (congrArg Value.bool (congrArg Bool.not (Bool.eq_false_iff.2 cc))) ?_
      refine ag 1 1 ?_
      refine ak rr rr<|aa.nil ?_
      refine bo ?_
      exact ⟨111,c,(ab (ab (ab (ab (ab (ab (ab (ab (ab au))))))))),T⟩
 ·
  rintro lt sp ⟨c2,lw,md,g2⟩
  subst lw
  obtain ⟨lt,rfl⟩:=md.open
  replace c:=kw
  refine ge _ _ ?_;clear ge
  refine ad fun _ g3=>ad fun _ g5=>?_
  refine ag 2 3 ?_
  refine aj rr rr<|aR (a:=(((a4:Nat):Int):Int)) (b:=(0:Int)) (p:=a4≠0) rr rr rr rr cm<|aa.fin g5 ?_;clear g5
  by_cases ce:a4≠0
  ·
   replace c:=aA c ce
   refine aG (congrArg Value.bool (decide_eq_true ce)) ?_
   refine ad fun _ g6=>ag 6 59 ?_
   refine fY mO eu rr<|aj rr rr ?_
   refine bA (ps:= [p8 16 (fun _=>0#8),p8 32 (fun _=>0#8),p8 32 (fun _=>0#8),p8 32 (fun _=>0#8),p8 32 (fun _=>0#8),p8 32 (fun _=>0#8),p8 32 (fun _=>0#8),p4 (0#32),p4 (0#32),p4 (0#32),p4 (0#32),p4 (0#32),p4 (0#32),p8 32 (fun _=>0#8),p8 32 (fun _=>0#8),p4 (0#32),p8 64 (fun _=>0#8)]) g2 rr rr rr (cj.run 0) ⟨fun _ _=>rr,fun _ _=>rr,fun _ _=>rr,fun _ _=>rr,fun _ _=>rr,fun _ _=>rr,fun _ _=>rr,fun _ _=>rr,fun _ _=>rr,fun _ _=>rr,fun _ _=>rr,fun _ _=>rr,fun _ _=>rr,fun _ _=>rr,fun _ _=>rr,fun _ _=>rr,fun _ _=>rr,trivial⟩ (by kernel_rfl) (av.keep ae.nil) fun st d0=>?_
   simp only [ao,List.take_succ_cons,List.take_zero,List.drop_succ_cons,List.drop_zero,List.length_cons,List.length_nil,Nat.zero_add,Nat.reduceAdd,List.cons_append,List.nil_append] at d0
   refine aV rr rr<|aV rr rr<|ak rr rr<|aa.fin g6 ?_;clear g6
   refine W.ret (a' (aB ?_))
   have mp:St B w0 (⟨none,0,0*34,fun _=>undef,true⟩::_) _:=d0.hP (fun _=>undef)
   have ms:=mp.cN
   have g7:=St.aF (C:= [_,_,_,_,_,_,_,_,_,_,_,_,_,_,_,_,_,_,_,_,_,_,_,_,_,_,_,_,_,_,_,_,_,_,_,_,_,_,_,_,_,_,_,_,_,_,_,_]) ms [1,0] (by decide)
   simp only [pick,aL,aK,aM,aJ,ah,ai] at g7
   subst r
   refine ax.mk (.agg d0 rr (.cons 0 rr (.cons 1 rr (.cons 2 rr (.cons 3 rr (.cons 4 rr (.cons 5 rr (.cons 6 rr (.cons 7 rr (.cons 8 rr (.cons 9 rr (.cons 10 rr (.cons 11 rr (.cons 12 rr (.cons 13 rr (.cons 14 rr (.cons 15 rr (.cons 16 rr .nil))))))))))))))))) (by kernel_rfl) (.bD rr (.bD rr (.bj rr .nil)))) ?_
   exact ⟨none,none,0,0,(fun _=>undef),none,none,0,0,(fun _=>0#8),rr,g7,LO.nil,Ow.nil⟩
  ·
   replace c:=az c ce
   refine aO (congrArg Value.bool (decide_eq_false ce)) ?_
   refine W.skip ?_
   refine g3 _ _ ?_;clear g3
   refine ad fun _ g9=>?_
   refine bd a7 [1,3,7,9,4,11,12,15] ?_
   have ci:=g2.drew
   refine bO ci rr rr (.cons 29 rr (.cons 30 rr (.cons 31 rr (.cons 32 rr (.cons 33 rr (.cons 34 rr (.cons 35 rr (.cons 36 rr (.cons 37 rr (.cons 38 rr (.cons 39 rr (.cons 40 rr (.cons 41 rr (.cons 42 rr (.cons 43 rr (.cons 44 rr (.cons 45 rr .nil))))))))))))))))) (by kernel_rfl)<|aE rr rr<|bO ci rr rr (.cons 23 rr (.cons 24 rr (.cons 25 rr (.cons 26 rr (.cons 27 rr (.cons 28 rr .nil)))))) sm<|bO ci rr rr (.cons 18 rr (.cons 19 rr (.cons 20 rr (.cons 21 rr (.cons 22 rr .nil))))) ei ?_
   obtain ⟨d1,mt,c⟩:=c
   refine aw B_ (zM (by exact (co.app [_,_,_,_,_,_,_,_,_,_,_,_,_,_,_,_,_,_,_,_,_,_,_,_,_,_,_,_,_,_,_,_,_,_,_,_,_,_,_,_,_,_,_,_,_,_])) mt ci) ?_
   rintro _ sz ⟨d2,s1,s2,d3,s3,rfl,he,hi⟩
   obtain rfl:=hi.hl
   refine ⟨_,rr,.inl ⟨ae.keep (by exact (ae.parts (.cons 19 rr (.cons 20 rr (.cons 21 rr (.cons 22 rr (.cons 23 rr .nil))))) (ae.parts (.cons 24 rr (.cons 25 rr (.cons 26 rr (.cons 27 rr (.cons 28 rr (.cons 29 rr .nil)))))) (ae.parts (.cons 30 rr (.cons 31 rr (.cons 32 rr (.cons 33 rr (.cons 34 rr (.cons 35 rr (.cons 36 rr (.cons 37 rr (.cons 38 rr (.cons 39 rr (.cons 40 rr (.cons 41 rr (.cons 42 rr (.cons 43 rr (.cons 44 rr (.cons 45 rr (.cons 46 rr .nil))))))))))))))))) ae.nil)))) he,?_⟩⟩
   refine dt (ps:= [p8 16 j,p8 32 n,p8 32 o,p8 32 q,p8 32 s,p8 32 t,p8 32 u,p4 x,p4 y,p4 z,p4 A,p4 D,p4 l,p8 32 E,p8 32 F,p4 G,p8 64 m,p1 (.slice d2 d1.length d3),p1 (.int .i64 J),p1 (.int .i64 K),p1 (.int .i64 g),p1 (.int .i64 h),p1 (.int .i64 M),p4 N,p8 16 I,p4 P,p8 32 Q,p4 R,p4 S,p1 (.slice none 0 0)]) By (by decide) Cv rr rr (.agg [] [p8 16 (fun _=>0#8),p8 32 (fun _=>0#8),p8 32 (fun _=>0#8),p8 32 (fun _=>0#8),p8 32 (fun _=>0#8),p8 32 (fun _=>0#8),p8 32 (fun _=>0#8),p4 (0#32),p4 (0#32),p4 (0#32),p4 (0#32),p4 (0#32),p4 (0#32),p8 32 (fun _=>0#8),p8 32 (fun _=>0#8),p4 (0#32),p8 64 (fun _=>0#8)] [p1 (.slice none 0 0),p1 (VN 0),p1 (VN 0),p1 (VN 0),p1 (VN 0),p1 (VN 0),p4 (0#32),p8 16 (fun _=>0#8),p4 (0#32),p8 32 (fun _=>0#8),p4 (0#32),p4 (0#32),p1 (.slice none 0 0)] [p8 16 j,p8 32 n,p8 32 o,p8 32 q,p8 32 s,p8 32 t,p8 32 u,p4 x,p4 y,p4 z,p4 A,p4 D,p4 l,p8 32 E,p8 32 F,p4 G,p8 64 m] (by kernel_rfl) (by kernel_rfl) (.one [p8 16 j,p8 32 n,p8 32 o,p8 32 q,p8 32 s,p8 32 t,p8 32 u,p4 x,p4 y,p4 z,p4 A,p4 D,p4 l,p8 32 E,p8 32 F,p4 G,p8 64 m] [p1 (VN 0),p1 (VN 0),p1 (VN 0),p1 (VN 0),p1 (VN 0),p4 (0#32),p8 16 (fun _=>0#8),p4 (0#32),p8 32 (fun _=>0#8),p4 (0#32),p4 (0#32),p1 (.slice none 0 0)] (fun _=> .slice none 0 0) (by kernel_rfl) rr (.agg [p8 16 j,p8 32 n,p8 32 o,p8 32 q,p8 32 s,p8 32 t,p8 32 u,p4 x,p4 y,p4 z,p4 A,p4 D,p4 l,p8 32 E,p8 32 F,p4 G,p8 64 m,p1 (.slice d2 d1.length d3)] [p1 (VN 0),p1 (VN 0),p1 (VN 0),p1 (VN 0),p1 (VN 0),p4 (0#32)] [p8 16 (fun _=>0#8),p4 (0#32),p8 32 (fun _=>0#8),p4 (0#32),p4 (0#32),p1 (.slice none 0 0)] [p1 (.int .i64 J),p1 (.int .i64 K),p1 (.int .i64 g),p1 (.int .i64 h),p1 (.int .i64 M),p4 N] (by kernel_rfl) (by kernel_rfl) (.agg [p8 16 j,p8 32 n,p8 32 o,p8 32 q,p8 32 s,p8 32 t,p8 32 u,p4 x,p4 y,p4 z,p4 A,p4 D,p4 l,p8 32 E,p8 32 F,p4 G,p8 64 m,p1 (.slice d2 d1.length d3),p1 (.int .i64 J),p1 (.int .i64 K),p1 (.int .i64 g),p1 (.int .i64 h),p1 (.int .i64 M),p4 N] [p8 16 (fun _=>0#8),p4 (0#32),p8 32 (fun _=>0#8),p4 (0#32),p4 (0#32)] [p1 (.slice none 0 0)] [p8 16 I,p4 P,p8 32 Q,p4 R,p4 S] (by kernel_rfl) (by kernel_rfl) .nil)))) ?_
   refine bp he rr rr (ae.parts (.cons 19 rr (.cons 20 rr (.cons 21 rr (.cons 22 rr (.cons 23 rr .nil))))) (ae.parts (.cons 24 rr (.cons 25 rr (.cons 26 rr (.cons 27 rr (.cons 28 rr (.cons 29 rr .nil)))))) (ae.parts (.cons 30 rr (.cons 31 rr (.cons 32 rr (.cons 33 rr (.cons 34 rr (.cons 35 rr (.cons 36 rr (.cons 37 rr (.cons 38 rr (.cons 39 rr (.cons 40 rr (.cons 41 rr (.cons 42 rr (.cons 43 rr (.cons 44 rr (.cons 45 rr (.cons 46 rr .nil))))))))))))))))) ae.nil))) fun s4 s5 s6 d4=>?_
   simp only [ao,Nat.zero_add,Nat.reduceAdd,ah,ai] at d4
   refine cA rr rr<|aa.fin g9 ?_;clear g9
   refine ad fun _ hk=>ag 10 1007 ?_
   refine aD rr rr<|aE rr rr<|aE rr rr<|aP d4 48 rr rr rr ba ?_
   have m0:St B w0 (⟨none,0,0*3,fun _=>undef,true⟩::_) _:=d4.hP (fun _=>undef)
   have hm:=St.aF (C:= [_,_,_,_,_,_,_,_,_,_,_,_,_,_,_,_,_,_,_,_,_,_,_,_,_,_,_,_,_,_,_,_,_,_,_,_,_,_,_,_,_,_,_,_,_,_,_,_,_,_,_,_,_,_,_,_,_,_,_,_,_,_,_,_,_,_,_,_,_,_,_,_,_,_,_,_,_,_]) m0 [1,2,3,4,5,6,7,8,9,10,11,12,13,14,15,16,17,18,31,19,20,21,22,23,24,25,26,27,28,29,30,0,32,33,34,35,36,37,38,39,40,41,42,43,44,45,46,47,48,49,50,51,52,53,54,55,56,57,58,59,60,61,62,63,64,65,66,67,68,69,70,71,72,73,74,75,76,77] (by decide)
   simp only [pick,aL,aK,aM,aJ,ah,ai] at hm
   obtain ⟨m1,d5,m2,m3,m4,m5,m6,m7,m8,m9,m',ne,nl,s7,s8,no,c⟩:=c
   refine aw zo (FL (iG1:=iG1+46) i2 (iG2:=iG2+46) i3 (iG3:=iG3+46) i4 (by exact hi) (by exact LO.nil) (es.app [_,_,_,_,_,_,_,_,_,_,_,_,_,_,_,_,_,_,_,_,_,_,_,_,_,_,_,_,_,_,_,_,_,_,_,_,_,_,_,_,_,_,_,_,_,_]) (fd.app [_,_,_,_,_,_,_,_,_,_,_,_,_,_,_,_,_,_,_,_,_,_,_,_,_,_,_,_,_,_,_,_,_,_,_,_,_,_,_,_,_,_,_,_,_,_]) no hm) ?_
   rintro _ s9 ⟨n5,n6,s',n7,n8,to,ty,t0,t1,t2,t3,t4,t5,t6,t7,rfl,hu,d6,d7,hw⟩
   try dsimp only at d6 d7 hw
   obtain rfl:=d7.hl
   obtain rfl:=hw.hl
   obtain rfl:=d6.hl
   refine ⟨_,rr,.inr ⟨rr,?_⟩⟩
   refine bK rr rr<|dh rr rr rr<|b' rr rr rr<|aV rr rr<|ak rr rr<|aa.fin hk ?_;clear hk
   refine ad fun _ hH=>ad fun _ hO=>?_
   refine ag 2 3 ?_
   refine aj rr rr<|aR (a:=(((d5:Nat):Int):Int)) (b:=(0:Int)) (p:=d5≠0) rr rr rr rr cm<|aa.fin hO ?_;clear hO
   by_cases cl:d5≠0
   ·
    replace c:=aA c cl
    refine aG (congrArg Value.bool (decide_eq_true cl)) ?_
    refine ad fun _ h1=>ag 6 59 ?_
    refine fY mO eu rr<|aj rr rr ?_
    refine bA (ps:= [p8 16 (fun _=>0#8),p8 32 (fun _=>0#8),p8 32 (fun _=>0#8),p8 32 (fun _=>0#8),p8 32 (fun _=>0#8),p8 32 (fun _=>0#8),p8 32 (fun _=>0#8),p4 (0#32),p4 (0#32),p4 (0#32),p4 (0#32),p4 (0#32),p4 (0#32),p8 32 (fun _=>0#8),p8 32 (fun _=>0#8),p4 (0#32),p8 64 (fun _=>0#8)]) hu rr rr rr (cj.run 33) ⟨fun _ _=>rr,fun _ _=>rr,fun _ _=>rr,fun _ _=>rr,fun _ _=>rr,fun _ _=>rr,fun _ _=>rr,fun _ _=>rr,fun _ _=>rr,fun _ _=>rr,fun _ _=>rr,fun _ _=>rr,fun _ _=>rr,fun _ _=>rr,fun _ _=>rr,fun _ _=>rr,fun _ _=>rr,trivial⟩ (by kernel_rfl) (av.keep ae.nil) fun t8 d8=>?_
    simp only [ao,List.take_succ_cons,List.take_zero,List.drop_succ_cons,List.drop_zero,List.length_cons,List.length_nil,Nat.zero_add,Nat.reduceAdd,List.cons_append,List.nil_append] at d8
    refine aV rr rr<|aV rr rr<|ak rr rr<|aa.fin h1 ?_;clear h1
    refine W.ret (a' (aB ?_))
    have ok:St B w0 (⟨none,0,0*34,fun _=>undef,true⟩::_) _:=d8.hP (fun _=>undef)
    have ol:=ok.cN
    have id:=St.aF (C:= [_,_,_,_,_,_,_,_,_,_,_,_,_,_,_,_,_,_,_,_,_,_,_,_,_,_,_,_,_,_,_,_,_,_,_,_,_,_,_,_,_,_,_,_,_,_,_,_,_,_,_,_,_,_,_,_,_,_,_,_,_,_,_,_,_,_,_,_,_,_,_,_,_,_,_,_,_,_,_,_,_]) ol [1,0] (by decide)
    simp only [pick,aL,aK,aM,aJ,ah,ai] at id
    subst r
    refine ax.mk (.agg d8 rr (.cons 33 rr (.cons 34 rr (.cons 35 rr (.cons 36 rr (.cons 37 rr (.cons 38 rr (.cons 39 rr (.cons 40 rr (.cons 41 rr (.cons 42 rr (.cons 43 rr (.cons 44 rr (.cons 45 rr (.cons 46 rr (.cons 47 rr (.cons 48 rr (.cons 49 rr .nil))))))))))))))))) (by kernel_rfl) (.bD rr (.bD rr (.bj rr .nil)))) ?_
    exact ⟨none,none,0,0,(fun _=>undef),none,none,0,0,(fun _=>0#8),rr,id,LO.nil,Ow.nil⟩
   ·
    replace c:=az c cl
    refine aO (congrArg Value.bool (decide_eq_false cl)) ?_
    refine W.skip ?_
    refine hH _ _ ?_;clear hH
    refine ad fun _ ii=>ag 6 31 ?_
    refine aD rr rr<|fY DD BV rr<|aa.nilCheck rr rr<|bm fx rr rr<|aa.fieldAddr 214 zR rr rr ?_
    refine bA (ps:= [p8 32 (fun _=>0#8),p8 32 (fun _=>0#8),p4 (0#32)]) hu rr rr rr (.cons 14 rr (.cons 15 rr (.cons 16 rr .nil))) ⟨fun _ _=>rr,fun _ _=>rr,fun _ _=>rr,trivial⟩ zi (av.keep ae.nil) fun t9 io=>?_
    simp only [ah,ai,aq,ar] at io
    refine aa.fin ii ?_;clear ii
    refine ad fun _ ip=>?_
    refine bd a7 [1,3,5,7,9,11,13,15,19,16,20,23,25,27] ?_
    have d9:=io.drew
    refine aD rr rr<|aa.nilCheck rr rr<|bm fx rr rr<|bO d9 rr rr (.cons 1 rr (.cons 2 rr (.cons 3 rr (.cons 4 rr (.cons 5 rr (.cons 6 rr (.cons 7 rr (.cons 8 rr (.cons 9 rr (.cons 10 rr (.cons 11 rr (.cons 12 rr (.cons 13 rr (.cons 14 rr (.cons 15 rr (.cons 16 rr (.cons 17 rr .nil))))))))))))))))) (by kernel_rfl)<|aD rr rr<|aa.nilCheck rr rr<|aa.fieldAddr 343 gM rr rr<|aX d9 18 rr rr rr (by omega) hr ?_
    refine aE rr rr ?_
    have is:=St.aF (C:= [_,_,_,_,_,_,_,_,_,_,_,_,_,_,_,_,_,_,_,_,_,_,_,_,_,_,_,_,_,_,_,_,_,_,_,_,_,_,_,_,_,_,_,_,_,_,_,_,_,_,_,_,_,_,_,_,_,_,_,_,_,_,_,_,_,_,_,_,_,_,_,_,_,_,_,_,_,_,_]) d9 [19,0,1,2,3,4,5,6,7,8,9,10,11,12,13,14,15,16,17,18,20,21,22,23,24,25,26,27,28,29,30,31,32,33,34,35,36,37,38,39,40,41,42,43,44,45,46,47,48,49,50,51,52,53,54,55,56,57,58,59,60,61,62,63,64,65,66,67,68,69,70,71,72,73,74,75,76,77,78] (by decide)
    simp only [pick,aL,aK,aM,aJ,ah,ai] at is
    obtain ⟨on,op,c⟩:=c
    refine dm Cn (CT (by exact d7) op is) ?_
    rintro _ t' ⟨or,os,ul,o',pi,rfl,it,i0⟩
    obtain rfl:=i0.hl
    refine ⟨_,rr,_,_,_,_,it,(by exact (av.mix _ (aH.drop rr (aH.keep rr aH.nil)) (ae.parts (.cons 2 rr (.cons 3 rr (.cons 4 rr (.cons 5 rr (.cons 6 rr (.cons 7 rr (.cons 8 rr (.cons 9 rr (.cons 10 rr (.cons 11 rr (.cons 12 rr (.cons 13 rr (.cons 14 rr (.cons 15 rr (.cons 16 rr (.cons 17 rr (.cons 18 rr .nil))))))))))))))))) ae.nil))),?_⟩
    refine bA (ps:= [p8 16 j,p8 32 m2,p8 32 m3,p8 32 m4,p8 32 m5,p8 32 m6,p8 32 m7,p4 m8,p4 m9,p4 m',p4 ne,p4 nl,p4 l,p8 32 (fun _=>0#8),p8 32 (fun _=>0#8),p4 (0#32),p8 64 m]) it rr rr rr (cj.run 33) ⟨fun _ _=>rr,fun _ _=>rr,fun _ _=>rr,fun _ _=>rr,fun _ _=>rr,fun _ _=>rr,fun _ _=>rr,fun _ _=>rr,fun _ _=>rr,fun _ _=>rr,fun _ _=>rr,fun _ _=>rr,fun _ _=>rr,fun _ _=>rr,fun _ _=>rr,fun _ _=>rr,fun _ _=>rr,trivial⟩ (by kernel_rfl) (av.wait rr) fun un el=>?_
    simp only [ao,List.take_succ_cons,List.take_zero,List.drop_succ_cons,List.drop_zero,List.length_cons,List.length_nil,Nat.zero_add,Nat.reduceAdd,List.cons_append,List.nil_append] at el
    refine aV rr rr<|aV rr rr<|ak rr rr<|aa.fin ip ?_;clear ip
    refine W.ret (aB ?_)
    have i1:=St.aF (C:= [_,_,_,_,_,_,_,_,_,_,_,_,_,_,_,_,_,_,_,_,_,_,_,_,_,_,_,_,_,_,_,_,_,_,_,_,_,_,_,_,_,_,_,_,_,_,_,_,_,_,_,_,_,_,_,_,_,_,_,_,_,_,_,_,_,_,_,_,_,_,_,_,_,_,_,_,_,_,_]) el [0,1] (by decide)
    simp only [pick,aL,aK,aM,aJ,ah,ai] at i1
    subst r
    refine ax.mk (.agg el rr (.cons 33 rr (.cons 34 rr (.cons 35 rr (.cons 36 rr (.cons 37 rr (.cons 38 rr (.cons 39 rr (.cons 40 rr (.cons 41 rr (.cons 42 rr (.cons 43 rr (.cons 44 rr (.cons 45 rr (.cons 46 rr (.cons 47 rr (.cons 48 rr (.cons 49 rr .nil))))))))))))))))) (by kernel_rfl) (.bD rr (.bD rr (.bj rr .nil)))) ?_
    exact ⟨or,os,on.length,o',pi,n5,n6,m1.length,n7,n8,rr,i1,i0,d6⟩
end Go.Proofs.YtjclppnbbpnfnaaGreatDoor
