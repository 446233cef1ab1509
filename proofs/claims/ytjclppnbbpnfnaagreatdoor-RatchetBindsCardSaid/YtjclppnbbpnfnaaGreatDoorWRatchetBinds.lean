/-
 WALKS of the package's functions, printed by this session's own program (auto.py).
-/
import Derived.Test.YtjclppnbbpnfnaaGreatDoorWF
import Derived.Test.YtjclppnbbpnfnaaGreatDoorProg
import Derived.Test.YtjclppnbbpnfnaaGreatDoorEd
import Derived.Test.YtjclppnbbpnfnaaGreatDoorRRatchetBinds
import Derived.Test.YtjclppnbbpnfnaaGreatDoorEls
import Derived.Test.YtjclppnbbpnfnaaGreatDoorWChain
import Derived.Test.YtjclppnbbpnfnaaGreatDoorWLaw16
import Derived.Test.YtjclppnbbpnfnaaGreatDoorWRatchet
namespace Go.Proofs.YtjclppnbbpnfnaaGreatDoor
set_option linter.unusedSimpArgs false
set_option linter.unusedVariables false
set_option linter.unusedSectionVars false
set_option maxRecDepth 8000
set_option maxHeartbeats 1000000
open Go Go.LW
set_option maxRecDepth 8000 in
set_option maxHeartbeats 16000000 in
theorem B5 {B:Nat} {w0:aC} {w:World} {L:List Rg} {iG1:Nat} (t:gT L iG1 1 8 .u32 cH) {iG2:Nat} (u:gT L iG2 2 64 .u32 bE) {iG3:Nat} (M:gT L iG3 3 5 .u64 dn) {iG1000:Nat} (z:gV L iG1000 0 0 (VN 0)) {iG1001:Nat} (A:gV L iG1001 0 1 (VN 0)) {iG1002:Nat} (E:gV L iG1002 0 2 (VN 64)) {iG1003:Nat} (F:gV L iG1003 0 3 (VN 256)) {iG1004:Nat} (G:gV L iG1004 0 4 (VN 0)) {iG1005:Nat} (H:gV L iG1005 0 5 (VU .u32 1000#32)) {i9 jd:K8} {I:List af} {O:Option Addr} {jp P zf:Nat} (f5:Bx L zf O jp P I) {x:List af} {Q:Option Addr} {kk S z0:Nat} (f6:Bx L z0 Q kk S x) {kw lc:Int} {r:Bool} (g:pZ i9 jd I x kw lc r) (z1:St B w0 (L) w):
  Calls Tryz.prog 7 #[AG [p8 32 i9],AG [p8 16 jd],.slice O jp P,.slice Q kk S,.int .i64 kw,.int .i64 lc] w fun e w'=>e= .returned (.bool r)∧St B w0 (L) w':=by
 refine W.enter 185 Tryz.func7 rr rr rr ?_
 unfold pZ at g
 have d:dB L L L L:=dB.refl _ _
 have z2:=f5.hl;subst z2
 have z3:=f6.hl;subst z3
 refine ad fun _ ld=>ag 3 4 ?_
 refine bp z1 rr rr ae.nil fun IY IZ I0 le=>?_
 simp only [ao,Nat.zero_add,Nat.reduceAdd,ah,ai] at le
 refine bp le rr rr ae.nil fun I1 I2 I3 be=>?_
 simp only [ao,Nat.zero_add,Nat.reduceAdd,ah,ai] at be
 refine a8 rr rr<|aa.fin ld ?_;clear ld
 refine ad fun _ cs=>ag 8 251 ?_
 refine aP be 1 rr rr rr ba<|aP be 0 rr rr rr hJ ?_
 rcases g with ⟨z4,f7,g⟩ | ⟨I4,I5,I6,I7,I8,I9,I_,I',Ja,Jb,Jc,Jd,Je,Jf,Jg,Jh,Ji,Jj,Jk,Jl,Jm,Jn,Jo,Jp,Jq,Jr,Js,Jt,Ju,Jv,Jw,Jx,Jy,Jz,JA,JB,li,z5,z9,f7,g⟩
 ·
  refine aw x5 (w1 (iG1:=iG1+2) t (iG2:=iG2+2) u (iG3:=iG3+2) M (LP:=L) (by exact fun r m=>List.mem_append_right [_,_] ((fun _ h=>h) r m)) f7 be) ?_
  rintro _ JC ⟨At,rfl,f8⟩
  replace f8:=kA (N:= []) (R:= [_,_]) f8
  obtain ⟨L,bi⟩:∃X,X=At ++L:=⟨_,rfl⟩
  have f9:=St.re (N:= [_,_]) bi f8
  simp only [ah,ai] at f9
  replace d:dB _ _ L L:=d.step bi bi
  obtain ⟨JD,JE⟩:∃i,Bx L i O I.length P I:=⟨_,by rw [bi];exact f5.app _⟩
  obtain ⟨JF,JG⟩:∃i,Bx L i Q x.length S x:=⟨_,by rw [bi];exact f6.app _⟩
  refine ⟨_,rr,.inr ⟨rr,?_⟩⟩
  refine bK rr rr<|hI rr rr rr<|gb rr rr rr<|cA rr rr<|a8 rr rr<|aa.fin cs ?_;clear cs
  refine ad fun _ JH=>ad fun _ lm=>?_
  refine ag 9 399 ?_
  by_cases c1:z4=true
  ·
   replace g:=aA g c1
   refine a_ (b:=true) rr (congrArg Value.bool c1)<|ns rr rr<|a_ rr rr<|aD rr rr ?_
   refine l6 ae.nil f9 (f:=fun q=>VU .u8 (lit ([102#8,105#8,114#8,115#8,116#8]:List af) q)) cq cw bJ df (by decide) (by decide) rr (fun _=>rr) (fun _=>rr) rr (by kernel_rfl) fun JI JJ JK JL=>?_
   exact g.elim
  ·
   replace g:=az g c1
   refine a_ (b:=false) rr (congrArg Value.bool (Bool.eq_false_iff.2 c1))<|l9 rr rr<|a_ rr rr<|al rr<|al rr<|al rr<|al rr<|al rr ?_
   refine b0 rr rr rr<|aa.fin lm ?_;clear lm
   refine aG rr ?_
   refine ad fun _ ls=>ag 1 1 ?_
   refine a8 rr rr<|aa.fin ls ?_;clear ls
   refine W.ret (a' (aB ?_))
   have lt:=St.aF (C:= [_,_]) f9 [] (by decide)
   simp only [pick,aL,aK,aM,aJ,ah,ai] at lt
   subst r
   refine ax.mk (.b2 rr .nil) ?_
   obtain ⟨J,o,K⟩:=d
   subst o
   have s:=fV (N:= []) lt
   exact ⟨rr,s⟩
 ·
  refine aw x5 (w1 (iG1:=iG1+2) t (iG2:=iG2+2) u (iG3:=iG3+2) M (LP:=L) (by exact fun r m=>List.mem_append_right [_,_] ((fun _ h=>h) r m)) f7 be) ?_
  rintro _ JM ⟨AC,l,JN,JO,JP,JQ,JR,JS,JT,JU,JV,JW,Do,Eq,JX,EQ,Fd,rfl,gc,gd,ge,go⟩
  try dsimp only at gd ge go
  obtain rfl:=gd.hl
  obtain rfl:=ge.hl
  obtain rfl:=go.hl
  replace gc:=kA (N:= [_,_,_,_,_,_,_,_,_,_,_,_,_,_,_,_,_,_,_,_,_,_,_,_,_,_,_,_,_,_,_,_,_,_,_,_,_,_,_,_,_]) (R:= [_,_]) gc
  obtain ⟨L,U⟩:∃X,X=AC ++L:=⟨_,rfl⟩
  have gs:=St.re (N:= [_,_,_,_,_,_,_,_,_,_,_,_,_,_,_,_,_,_,_,_,_,_,_,_,_,_,_,_,_,_,_,_,_,_,_,_,_,_,_,_,_,_,_]) U gc
  simp only [ah,ai] at gs
  replace d:dB _ _ L L:=d.step U U
  obtain ⟨JY,Fn⟩:∃i,Bx L i O I.length P I:=⟨_,by rw [U];exact f5.app _⟩
  obtain ⟨JZ,Fr⟩:∃i,Bx L i Q x.length S x:=⟨_,by rw [U];exact f6.app _⟩
  have FS:LO (dp.at L) [] Do Eq ((li).length) EQ Fd li:=LO.grow gG (fun r m=>(by rw [U];exact m)) go
  refine ⟨_,rr,.inr ⟨rr,?_⟩⟩
  refine bK rr rr<|hI rr rr rr<|gb rr rr rr<|cA rr rr<|a8 rr rr<|aa.fin cs ?_;clear cs
  refine ad fun _ lw=>ad fun _ c2=>?_
  refine ag 9 399 ?_
  by_cases dl:z9=true
  ·
   replace g:=aA g dl
   refine a_ (b:=true) rr (congrArg Value.bool dl)<|ns rr rr<|a_ rr rr<|aD rr rr ?_
   refine l6 ae.nil gs (f:=fun q=>VU .u8 (lit ([102#8,105#8,114#8,115#8,116#8]:List af) q)) cq cw bJ df (by decide) (by decide) rr (fun _=>rr) (fun _=>rr) rr (by kernel_rfl) fun J0 J1 J2 Go=>?_
   have md:=St.aF (C:= [_,_,_,_,_,_,_,_,_,_,_,_,_,_,_,_,_,_,_,_,_,_,_,_,_,_,_,_,_,_,_,_,_,_,_,_,_,_,_,_,_,_,_,_]) Go [1,2,3,4,5,6,7,8,9,10,11,12,13,14,15,16,17,18,19,20,21,22,23,24,25,26,27,28,29,30,31,32,33,34,35,36,37,38,39,40,41,0,42,43] (by decide)
   simp only [pick,aL,aK,aM,aJ,ah,ai] at md
   obtain ⟨GE,J3,J4,J5,J6,J7,J8,J9,J_,J',Ka,Kb,Kc,Kd,Ke,Kf,Kg,Kh,Ki,Kj,Kk,Kl,Km,Kn,Ko,Kp,Kq,Kr,Ks,Kt,Ku,Kv,Kw,Kx,Kz,KA,KB,mp,GO,g⟩:=g
   refine aw tz (xO (iG1:=(d.get t).choose+3) (d.get t).choose_spec (iG2:=(d.get u).choose+3) (d.get u).choose_spec (iG1000:=(d.get z).choose+3) (d.get z).choose_spec (iG1001:=(d.get A).choose+3) (d.get A).choose_spec (iG1002:=(d.get E).choose+3) (d.get E).choose_spec (iG1003:=(d.get F).choose+3) (d.get F).choose_spec (iG1004:=(d.get G).choose+3) (d.get G).choose_spec (iG1005:=(d.get H).choose+3) (d.get H).choose_spec (LP:=L) (by exact fun r m=>List.mem_append_right [_,_,_] ((fun _ h=>h) r m)) (by exact gd) (by exact ge) (by exact LO.grow gG (fun r m=>m) FS) (by exact (bH (n:=5) (cc:=5) 0 rr (by omega) (by omega))) GO md) ?_
   rintro _ KC ⟨GP,KD,KF,KG,KH,KI,KJ,KL,KM,KN,KO,GQ,GR,KP,GS,GT,rfl,gt,g0,g2,g3⟩
   try dsimp only at g0 g2 g3
   obtain rfl:=g0.hl
   obtain rfl:=g2.hl
   obtain rfl:=g3.hl
   replace gt:=kA (N:= [_,_,_,_,_,_,_,_,_,_,_,_,_,_,_,_,_,_,_,_,_,_,_,_,_,_,_,_,_,_,_,_,_,_,_,_,_,_,_,_,_]) (R:= [_,_,_]) gt
   obtain ⟨L,V⟩:∃X,X=GP ++L:=⟨_,rfl⟩
   have bv:=St.re (N:= [_,_,_,_,_,_,_,_,_,_,_,_,_,_,_,_,_,_,_,_,_,_,_,_,_,_,_,_,_,_,_,_,_,_,_,_,_,_,_,_,_,_,_,_]) V gt
   simp only [ah,ai] at bv
   replace d:dB _ _ L L:=d.step V V
   obtain ⟨KQ,ms⟩:∃i,Bx L i O I.length P I:=⟨_,by rw [V];exact Fn.app _⟩
   obtain ⟨KR,GU⟩:∃i,Bx L i Q x.length S x:=⟨_,by rw [V];exact Fr.app _⟩
   have GV:LO (dp.at L) [] GQ GR ((mp).length) GS GT mp:=LO.grow gG (fun r m=>(by rw [V];exact m)) g3
   refine ⟨_,rr,.inl ⟨ae.keep (by exact ae.nil) bv,?_⟩⟩
   refine aa.not rr rr<|ca rr rr rr<|aa.fin c2 ?_;clear c2
   by_cases ds:GE=true
   ·
    replace g:=aA g ds
    refine aO (congrArg Value.bool (congrArg Bool.not ds)) ?_
    refine W.skip ?_
    refine lw _ _ ?_;clear lw
    refine ad fun _ mt=>ag 14 959 ?_
    refine aD rr rr<|aa.nilCheck rr rr<|bm eS rr rr<|c3 (j:=0) (o':=0) eQ rr rr rr (by omega) rr<|aa.fieldAddr 144 mc rr rr<|aP bv 5 rr rr rr ba ?_
    obtain ⟨GW,m0,GX,g⟩:=g
    refine aw oJ (pQ (iG1:=(d.get t).choose+44) (d.get t).choose_spec (iG2:=(d.get u).choose+44) (d.get u).choose_spec GX bv) ?_
    rintro _ KS ⟨rfl,GY⟩
    refine ⟨_,rr,.inr ⟨rr,?_⟩⟩
    refine bK rr rr<|b5 rr rr rr<|b5 rr rr rr ?_
    refine aa.alloc GY rr c4 ae.nil fun KT KU KV m1=>?_
    simp only [ao,Nat.zero_add,Nat.reduceAdd,ah,ai] at m1
    refine aa.alloc m1 rr c4 ae.nil fun m2 KW KX m3=>?_
    simp only [ao,Nat.zero_add,Nat.reduceAdd,ah,ai] at m3
    refine aY (f':=fun q=>VU .u8 (GW q)) m3 1 rr rr rr rr (fun _ _=>rr) bP rr fun KY m4=>?_
    simp only [ah,ai,aq,ar] at m4
    refine aY (f':=fun q=>VU .u8 (m0 q)) m4 0 rr rr rr rr (fun _ _=>rr) bP rr fun KZ m5=>?_
    simp only [ah,ai,aq,ar] at m5
    refine aa.fin mt ?_;clear mt
    refine ad fun _ m6=>ad fun _ m7=>?_
    refine ag 4 11 ?_
    refine aD rr rr<|aE rr rr ?_
    have m8:=St.aF (C:= [_,_,_,_,_,_,_,_,_,_,_,_,_,_,_,_,_,_,_,_,_,_,_,_,_,_,_,_,_,_,_,_,_,_,_,_,_,_,_,_,_,_,_,_,_,_]) m5 [2,3,4,5,6,7,8,9,10,11,12,13,14,15,16,17,18,19,20,21,22,23,24,25,26,27,28,29,30,31,32,33,34,35,36,37,38,39,40,41,42,0,1,43,44,45] (by decide)
    simp only [pick,aL,aK,aM,aJ,ah,ai] at m8
    obtain ⟨GZ,G0,G1,G2,G3,G4,G5,G6,G7,G8,G9,G_,G',Ha,Hb,Hc,He,Hf,K0,K1,K2,K3,K4,K5,K6,K7,K9,K_,K',La,Lb,Lc,Ld,Le,Lf,Lg,Lh,m9,Hg,g⟩:=g
    refine aw tz (xO (iG1:=(d.get t).choose+5) (d.get t).choose_spec (iG2:=(d.get u).choose+5) (d.get u).choose_spec (iG1000:=(d.get z).choose+5) (d.get z).choose_spec (iG1001:=(d.get A).choose+5) (d.get A).choose_spec (iG1002:=(d.get E).choose+5) (d.get E).choose_spec (iG1003:=(d.get F).choose+5) (d.get F).choose_spec (iG1004:=(d.get G).choose+5) (d.get G).choose_spec (iG1005:=(d.get H).choose+5) (d.get H).choose_spec (LP:=L) (by exact fun r m=>List.mem_append_right [_,_,_,_,_] ((fun _ h=>h) r m)) (by exact g0) (by exact g2) (by exact LO.grow gG (fun r m=>m) GV) (ms.app [_,_,_,_,_]) Hg m8) ?_
    rintro _ Li ⟨Hh,Lj,Ll,Lm,Ln,Lo,Lp,Lq,Lr,Ls,Lt,Hi,Hj,Lu,Hk,Hl,rfl,g5,g6,g7,g9⟩
    try dsimp only at g6 g7 g9
    obtain rfl:=g6.hl
    obtain rfl:=g7.hl
    obtain rfl:=g9.hl
    replace g5:=kA (N:= [_,_,_,_,_,_,_,_,_,_,_,_,_,_,_,_,_,_,_,_,_,_,_,_,_,_,_,_,_,_,_,_,_,_,_,_,_,_,_,_,_]) (R:= [_,_,_,_,_]) g5
    obtain ⟨L,Z⟩:∃X,X=Hh ++L:=⟨_,rfl⟩
    have cd:=St.re (N:= [_,_,_,_,_,_,_,_,_,_,_,_,_,_,_,_,_,_,_,_,_,_,_,_,_,_,_,_,_,_,_,_,_,_,_,_,_,_,_,_,_,_,_,_,_,_]) Z g5
    simp only [ah,ai] at cd
    replace d:dB _ _ L L:=d.step Z Z
    obtain ⟨Lv,Hm⟩:∃i,Bx L i O I.length P I:=⟨_,by rw [Z];exact ms.app _⟩
    obtain ⟨Lw,Hn⟩:∃i,Bx L i Q x.length S x:=⟨_,by rw [Z];exact GU.app _⟩
    have Ho:LO (dp.at L) [] Hi Hj ((m9).length) Hk Hl m9:=LO.grow gG (fun r m=>(by rw [Z];exact m)) g9
    refine ⟨_,rr,.inl ⟨ae.keep (by exact ae.nil) cd,?_⟩⟩
    refine aa.not rr rr<|aa.fin m7 ?_;clear m7
    by_cases d0:GZ=true
    ·
     replace g:=aA g d0
     refine aO (congrArg Value.bool (congrArg Bool.not d0)) ?_
     refine W.skip ?_
     refine m6 _ _ ?_;clear m6
     refine ad fun _ m'=>ag 8 157 ?_
     refine aP cd 45 rr rr rr ba ?_
     obtain ⟨ne,nl,Hp,Hq,g⟩:=g
     refine aw rQ (ru (iG3:=(d.get M).choose+46) (d.get M).choose_spec Hq cd) ?_
     rintro _ Lx ⟨rfl,Hr⟩
     refine ⟨_,rr,.inr ⟨rr,?_⟩⟩
     refine bK rr rr<|b5 rr rr rr<|gb rr rr rr ?_
     refine aa.alloc Hr rr iY ae.nil fun he Ly Lz no=>?_
     simp only [ao,Nat.zero_add,Nat.reduceAdd,ah,ai] at no
     refine bA (ps:= [p8 32 ne,p8 32 nl]) no rr rr rr (.cons 0 rr (.cons 1 rr .nil)) ⟨fun _ _=>rr,fun _ _=>rr,trivial⟩ iA (av.keep ae.nil) fun LA d1=>?_
     simp only [ah,ai,aq,ar] at d1
     refine a8 rr rr<|aa.fin m' ?_;clear m'
     refine ad fun _ n5=>ad fun _ d2=>?_
     refine ag 9 447 ?_
     by_cases d3:Hp=true
     ·
      replace g:=aA g d3
      refine a_ (b:=true) rr (congrArg Value.bool d3)<|ns rr rr<|a_ rr rr<|aD rr rr<|bm kW rr rr<|aP d1 0 rr rr rr ba ?_
      have n6:=St.aF (C:= [_,_,_,_,_,_,_,_,_,_,_,_,_,_,_,_,_,_,_,_,_,_,_,_,_,_,_,_,_,_,_,_,_,_,_,_,_,_,_,_,_,_,_,_,_,_,_,_]) d1 [2,3,4,5,6,7,8,9,10,11,12,13,14,15,16,17,18,19,20,21,22,23,24,25,26,27,28,29,30,31,32,33,34,35,36,37,38,39,40,41,42,0,1,43,44,45,46,47] (by decide)
      simp only [pick,aL,aK,aM,aJ,ah,ai] at n6
      obtain ⟨Hs,Ht,Hu,Hv,Hw,Hx,Hy,Hz,HA,HB,HC,HD,HE,HF,HG,HH,HI,HJ,HK,HL,k,HM,g⟩:=g
      refine aw yf (wV (iG1:=(d.get t).choose+7) (d.get t).choose_spec (iG2:=(d.get u).choose+7) (d.get u).choose_spec (iG3:=(d.get M).choose+7) (d.get M).choose_spec (iG1000:=(d.get z).choose+7) (d.get z).choose_spec (iG1001:=(d.get A).choose+7) (d.get A).choose_spec (iG1002:=(d.get E).choose+7) (d.get E).choose_spec (iG1003:=(d.get F).choose+7) (d.get F).choose_spec (iG1004:=(d.get G).choose+7) (d.get G).choose_spec (iG1005:=(d.get H).choose+7) (d.get H).choose_spec (LP:=L) (by exact fun r m=>List.mem_append_right [_,_,_,_,_,_,_] ((fun _ h=>h) r m)) (by exact g6) (by exact g7) (by exact LO.grow gG (fun r m=>m) Ho) HM n6) ?_
      rintro _ LB ⟨HN,HO,HP,LC,n7,HQ,HR,HS,LD,n8,HT,ok,ol,LE,hk,on,rfl,hm,hu,d4,hw⟩
      try dsimp only at hu d4 hw
      obtain rfl:=hu.hl
      obtain rfl:=d4.hl
      obtain rfl:=hw.hl
      replace hm:=kA (N:= [_,_,_,_,_,_,_,_,_,_,_,_,_,_,_,_,_,_,_,_,_,_,_,_,_,_,_,_,_,_,_,_,_,_,_,_,_,_,_,_,_]) (R:= [_,_,_,_,_,_,_]) hm
      obtain ⟨L,am⟩:∃X,X=HN ++L:=⟨_,rfl⟩
      have ap:=St.re (N:= [_,_,_,_,_,_,_,_,_,_,_,_,_,_,_,_,_,_,_,_,_,_,_,_,_,_,_,_,_,_,_,_,_,_,_,_,_,_,_,_,_,_,_,_,_,_,_,_]) am hm
      simp only [ah,ai] at ap
      replace d:dB _ _ L L:=d.step am am
      obtain ⟨LF,LG⟩:∃i,Bx L i O I.length P I:=⟨_,by rw [am];exact Hm.app _⟩
      obtain ⟨LH,HU⟩:∃i,Bx L i Q x.length S x:=⟨_,by rw [am];exact Hn.app _⟩
      have hH:LO (dp.at L) [] ok ol ((k).length) hk on k:=LO.grow gG (fun r m=>(by rw [am];exact m)) hw
      refine ⟨_,rr,.inr ⟨rr,?_⟩⟩
      refine aa.not rr rr<|ca rr rr rr<|aa.fin d2 ?_;clear d2
      by_cases d5:Hs=true
      ·
       replace g:=aA g d5
       refine aO (congrArg Value.bool (congrArg Bool.not d5)) ?_
       refine W.skip ?_
       refine n5 _ _ ?_;clear n5
       refine ad fun _ op=>ag 8 63 ?_
       refine aD rr rr<|aa.nilCheck rr rr<|aa.fieldAddr 688 hn rr rr<|aX ap 38 rr rr rr (by omega) iR ?_
       obtain ⟨or,g⟩:=g
       refine f_ (D:=(dp.at L)) (j:=1) ap (cZ kE hH 39 rr) w_ rr rr rr or ?_
       refine ht (D:=(dp.at L)) (X:=k) (j:=1) (sz:=55) ap bg (cZ kE hH 39 rr) rr rr or rr (by kernel_rfl) fun os LI HV HW=>?_
       obtain ⟨LJ,pi⟩:=HV
       refine aa.alloc ap rr nG (ae.cons 39 HW (ae.cons 38 rr ae.nil)) fun LK LM LN pl=>?_
       simp only [ao,Nat.zero_add,Nat.reduceAdd,ah,ai] at pl
       refine bA (ps:= [p1 (.int .i64 ((k.getD 1 bg).1)),p8 16 ((k.getD 1 bg).2.1),p4 ((k.getD 1 bg).2.2.1),p8 32 ((k.getD 1 bg).2.2.2.1),p4 ((k.getD 1 bg).2.2.2.2.1),p4 ((k.getD 1 bg).2.2.2.2.2.1),p1 (.slice ((os).1) (((k.getD 1 bg).2.2.2.2.2.2.1).length) ((os).2)),p1 (.string (bV ((k.getD 1 bg).2.2.2.2.2.2.2.1))),p1 (.string (bV ((k.getD 1 bg).2.2.2.2.2.2.2.2)))]) pl rr rr rr (cj.run 0) ⟨fun _ _=>rr,fun _ _=>rr,fun _ _=>rr,fun _ _=>rr,fun _ _=>rr,fun _ _=>rr,fun _ _=>rr,fun _ _=>rr,fun _ _=>rr,trivial⟩ (by kernel_rfl) (av.wait rr) fun LQ a0=>?_
       simp only [ao,List.take_succ_cons,List.take_zero,List.drop_succ_cons,List.drop_zero,List.length_cons,List.length_nil,Nat.zero_add,Nat.reduceAdd,List.cons_append,List.nil_append] at a0
       refine aa.fin op ?_;clear op
       refine ad fun _ pm=>ag 15 31999 ?_
       refine aP a0 52 rr rr rr ba ?_
       refine gu (ps:= [p8 64 (an (fun _=>0#8) 0 (7#8))]) dX mM rr rr (by kernel_rfl) ?_
       refine aa.fieldAddr 1 qO rr rr<|bO a0 rr rr (.cons 1 rr (.cons 2 rr (.cons 3 rr (.cons 4 rr (.cons 5 rr .nil))))) ei<|aa.fieldAddr 52 tr rr rr<|aX a0 6 rr rr rr (by omega) hT<|aa.fieldAddr 54 sh rr rr<|aX a0 8 rr rr rr (by omega) pa ?_
       refine q0 (X:=(k.getD 1 bg).2.2.2.2.2.2.2.2) a0 gB cq cw rr rr (fun _=>av.mix _ (aH.drop rr (aH.keep rr (aH.keep rr (aH.keep rr aH.nil)))) (ae.cons 7 rr (ae.parts (.cons 2 rr (.cons 3 rr (.cons 4 rr (.cons 5 rr (.cons 6 rr .nil))))) (ae.cons 53 rr ae.nil)))) fun LR LS LT LU HX HY=>?_
       obtain ⟨HZ,H1,H2,g⟩:=g
       refine aw vE (yP (iG1:=(d.get t).choose+58) (d.get t).choose_spec (iG2:=(d.get u).choose+58) (d.get u).choose_spec (pi.app [_,_,_,_,_,_,_,_,_,_,_,_,_,_,_,_,_,_,_,_,_,_,_,_,_,_,_,_,_,_,_,_,_,_,_,_,_,_,_,_,_,_,_,_,_,_,_,_,_,_,_,_,_,_,_,_,_,_]) (by exact (HX.bx 0 rr)) H2 HY) ?_
       rintro _ LX ⟨rfl,d6⟩
       refine ⟨_,rr,.inr ⟨rr,?_⟩⟩
       refine bK rr rr<|gb rr rr rr<|gb rr rr rr<|a8 rr rr<|a8 rr rr<|aa.fin pm ?_;clear pm
       refine ad fun _ pp=>ad fun _ d7=>?_
       refine ag 6 63 ?_
       by_cases d8:HZ=true
       ·
        replace g:=aA g d8
        refine a_ (b:=true) rr (congrArg Value.bool d8)<|ns rr rr<|a_ rr rr<|a_ rr rr<|aa.not rr rr<|ca rr rr rr<|aa.fin d7 ?_;clear d7
        by_cases d9:H1=true
        ·
         replace g:=aA g d9
         refine aO (congrArg Value.bool (congrArg Bool.not d9)) ?_
         refine W.skip ?_
         refine pp _ _ ?_;clear pp
         refine ad fun _ pu=>ag 4 3 ?_
         refine aa.fieldAddr 1 qO rr rr<|bO d6 rr rr (.cons 2 rr (.cons 3 rr (.cons 4 rr (.cons 5 rr (.cons 6 rr .nil))))) ei ?_
         refine aa.alloc d6 rr ik (ae.parts (.cons 2 rr (.cons 3 rr (.cons 4 rr (.cons 5 rr (.cons 6 rr .nil))))) ae.nil) fun a2 LY LZ qr=>?_
         simp only [ao,Nat.zero_add,Nat.reduceAdd,ah,ai] at qr
         refine bA (ps:= [p8 16 ((k.getD 1 bg).2.1),p4 ((k.getD 1 bg).2.2.1),p8 32 ((k.getD 1 bg).2.2.2.1),p4 ((k.getD 1 bg).2.2.2.2.1),p4 ((k.getD 1 bg).2.2.2.2.2.1)]) qr rr rr rr (.cons 0 rr (.cons 1 rr (.cons 2 rr (.cons 3 rr (.cons 4 rr .nil))))) ⟨fun _ _=>rr,fun _ _=>rr,fun _ _=>rr,fun _ _=>rr,fun _ _=>rr,trivial⟩ iw (av.wait rr) fun L0 rc=>?_
         simp only [ah,ai,aq,ar] at rc
         refine aa.fin pu ?_;clear pu
         refine ad fun _ rd=>ag 5 22 ?_
         refine yM rc (fun q=>VU .u8 ((fun _=>0#8:Nat→af) q)) cq bJ rr (av.keep ae.nil) fun L1 L2 L3 rg=>?_
         refine aa.fieldAddr 52 tr rr rr<|aX rg 13 rr rr rr (by omega) hT ?_
         obtain ⟨H3,g⟩:=g
         refine kS (X:=([]:List af)) (Y:=((k.getD 1 bg).2.2.2.2.2.2.1)) rg 0 Ow.empty eY b4 rr rr rr rr (pi.app [_,_,_,_,_,_,_,_,_,_,_,_,_,_,_,_,_,_,_,_,_,_,_,_,_,_,_,_,_,_,_,_,_,_,_,_,_,_,_,_,_,_,_,_,_,_,_,_,_,_,_,_,_,_,_,_,_,_,_,_,_,_,_,_]) H3 (fun _=>av.wait rr) fun hO h1 id ro L4 a3 ii=>?_
         simp only [ah,ai,aq,ar] at ii
         refine aV rr rr<|aa.fin rd ?_;clear rd
         refine ad fun _ rs=>ag 4 11 ?_
         refine aa.fieldAddr 54 sh rr rr<|aX ii 15 rr rr rr (by omega) pa ?_
         refine q0 (X:=(k.getD 1 bg).2.2.2.2.2.2.2.2) ii gB cq cw rr rr (fun _=>av.wait rr) fun el rt L5 L6 rx H4=>?_
         refine aV rr rr<|aa.fin rs ?_;clear rs
         refine ad fun _ sp=>?_
         obtain ⟨H5,H6,H7,H9,H_⟩:=g
         refine bq (fun e w=>∃io ce:List af,∃ip:U4,(H5=io∧H6=ce∧H7=ip)∧∃is:Option Addr,∃it:Option Nat,∃em:Nat,∃i0:Nat→af,∃i1:Option Addr,∃i2:Option Nat,∃eq:Nat,∃i3:Nat→af,aU e [(13,pt l 0),(16,pt m2 0),(17,pt he 0),(22,pt a2 0),(23,.slice is ((([]:List af) ++((k.getD 1 bg).2.2.2.2.2.2.1)).length) em),(24,.slice i1 ce.length eq)]∧St B w0 (gO it em i0::gO i2 eq i3::g8 a2 0 16 ((k.getD 1 bg).2.1)::g4 a2 16 ((k.getD 1 bg).2.2.1)::g8 a2 17 32 ((k.getD 1 bg).2.2.2.1)::g4 a2 49 ip::g4 a2 50 ((k.getD 1 bg).2.2.2.2.2.1)::g8 l 0 16 G0::g8 l 16 32 G1::g8 l 48 32 G2::g8 l 80 32 G3::g8 l 112 32 G4::g8 l 144 32 G5::g8 l 176 32 G6::g4 l 208 G7::g4 l 209 G8::g4 l 210 G9::g4 l 211 G_::g4 l 212 G'::g4 l 213 Ha::g8 l 214 32 Hb::g8 l 246 32 Hc::g4 l 278 He::g8 l 279 64 Hf::g8 l 343 16 Ht::g8 l 359 32 Hu::g8 l 391 32 Hv::g8 l 423 32 Hw::g8 l 455 32 Hx::g8 l 487 32 Hy::g8 l 519 32 Hz::g4 l 551 HA::g4 l 552 HB::g4 l 553 HC::g4 l 554 HD::g4 l 555 HE::g4 l 556 HF::g8 l 557 32 HG::g8 l 589 32 HH::g4 l 621 HI::g8 l 622 64 HJ::g1 l 686 (.slice HO HK.length n7)::gL HP (n7*34) HQ::g1 l 687 (.slice HR HL.length n8)::gL HS (n8*34) HT::g1 l 688 (.slice ok k.length hk)::gL ol (hk*55) on::g1 l 689 (VN z5)::g8 he 0 32 ne::g8 he 32 32 nl::g8 m2 0 32 m0::L) w∧Ow is it ((([]:List af) ++((k.getD 1 bg).2.2.2.2.2.2.1)).length) em i0 io∧Ow i1 i2 ce.length eq i3 ce) ?_ ?_
         ·
          replace g:=H9
          refine ad fun _ st=>ag 2 1 ?_
          refine aj rr rr ?_
          obtain ⟨a4,H',g⟩:=g
          refine aw rG (rq H' H4) ?_
          rintro _ L7 ⟨rfl,es⟩
          refine ⟨_,rr,.inl ⟨ae.keep (by exact ae.nil) es,?_⟩⟩
          refine aa.fin st ?_;clear st
          refine W.block ?_
          refine ad fun _ s1=>ag 2 3 ?_
          refine aR (a:=(a4:Int)) (b:=(0:Int)) (p:=a4=0) rr rr rr rr j3<|a8 rr rr<|aa.fin s1 ?_;clear s1
          by_cases ex:a4=0
          ·
           replace g:=aA g ex
           refine aG (congrArg Value.bool (decide_eq_true ex)) ?_
           refine ad fun _ s2=>ag 6 47 ?_
           refine aj rr rr<|aE rr rr<|aa.len cB rr rr ?_
           obtain ⟨L8,g⟩:=g
           refine fr (a:=8) (b:=(([]:List af) ++((k.getD 1 bg).2.2.2.2.2.2.1)).length) rr rr rr (by omega) ?_
           obtain ⟨y,Ia,g⟩:=g
           refine aw rG (rq Ia es) ?_
           rintro _ L9 ⟨rfl,s3⟩
           refine ⟨_,rr,.inl ⟨ae.keep (by exact ae.nil) s3,?_⟩⟩
           refine ak rr rr<|aa.fin s2 ?_;clear s2
           refine bd a7 [1,3,5,7,9,11,13,15,17,19,20] ?_
           have fd:=s3.drew
           refine aE rr rr<|aj rr rr ?_
           obtain ⟨Ib,g⟩:=g
           refine lp (a:=y) (b:=8) rr rr rr (by omega) Ib ?_
           obtain ⟨ci,g⟩:=g
           refine ju (j:=(y.tdiv 8).toNat) fd (a3.bx 1 rr) b4 rr rr (congrArg (Value.int .i64) (Int.toNat_of_nonneg ci.1).symm) (toNat_lt ci.1 ci.2) ?_
           refine oN (j:=(y.tdiv 8).toNat) fd (a3.bx 1 rr) rr rr (toNat_lt ci.1 ci.2) bZ fun L_ L'=>?_
           refine aj rr rr ?_
           have Ma:=jw y (c:=8) (by decide)
           refine iP (a:=y) (b:=8) rr rr rr (by omega) ?_
           obtain ⟨Ic,g⟩:=g
           refine hE .u8 (X:=1#8) (c:=(y.tmod 8).toNat) rr rr (congrArg (Value.int .i64) (Int.toNat_of_nonneg Ic).symm) ?_
           refine cp .u8 (X:=(lit (([]:List af) ++((k.getD 1 bg).2.2.2.2.2.2.1)) ((y.tdiv 8).toNat))) (Y:=((1#8) <<< ((y.tmod 8).toNat))) rr rr rr ?_
           obtain ⟨cl,g⟩:=g
           refine ju (j:=(y.tdiv 8).toNat) fd (a3.bx 1 rr) b4 rr rr (congrArg (Value.int .i64) (Int.toNat_of_nonneg cl.1).symm) (toNat_lt cl.1 cl.2) ?_
           refine rX (j:=(y.tdiv 8).toNat) (Y:=((lit (([]:List af) ++((k.getD 1 bg).2.2.2.2.2.2.1)) ((y.tdiv 8).toNat)) ^^^ ((1#8) <<< ((y.tmod 8).toNat)))) fd 1 a3 rr rr rr rr (toNat_lt cl.1 cl.2) bJ rr fun Mb Id Ie s4=>?_
           simp only [ah,ai,aq,ar] at s4
           have Mc:((([]:List af) ++((k.getD 1 bg).2.2.2.2.2.2.1)).set ((y.tdiv 8).toNat) ((lit (([]:List af) ++((k.getD 1 bg).2.2.2.2.2.2.1)) ((y.tdiv 8).toNat)) ^^^ ((1#8) <<< ((y.tmod 8).toNat)))).length=(([]:List af) ++((k.getD 1 bg).2.2.2.2.2.2.1)).length:=List.length_set
           refine aa.nil ?_
           refine bo ?_
           exact ⟨((([]:List af) ++((k.getD 1 bg).2.2.2.2.2.2.1)).set ((y.tdiv 8).toNat) ((lit (([]:List af) ++((k.getD 1 bg).2.2.2.2.2.2.1)) ((y.tdiv 8).toNat)) ^^^ ((1#8) <<< ((y.tmod 8).toNat)))),(k.getD 1 bg).2.2.2.2.2.2.2.2,(k.getD 1 bg).2.2.2.2.1,g,hO,h1,id,Id,some ⟨el,0,none⟩,some el,rt,(lit ((k.getD 1 bg).2.2.2.2.2.2.2.2)),(ab (ab (ab (ab (ab (ab au)))))),bt 65 [1,0,2,3,4,5,6,17,18,19,20,21,22,23,24,25,26,27,28,29,30,31,32,33,34,35,36,37,38,39,40,41,42,43,44,45,46,47,48,49,50,51,52,53,54,55,56,57,58,59,60] s4,(show Ow _ _ ((([]:List af) ++((k.getD 1 bg).2.2.2.2.2.2.1)).length) _ _ _ from Ie),rx⟩
          ·
           replace g:=az g ex
           refine aO (congrArg Value.bool (decide_eq_false ex)) ?_
           refine ad fun _ s5=>ag 2 3 ?_
           refine aR (a:=(a4:Int)) (b:=(1:Int)) (p:=a4=1) rr rr rr rr j3<|a8 rr rr<|aa.fin s5 ?_;clear s5
           by_cases fn:a4=1
           ·
            replace g:=aA g fn
            refine aG (congrArg Value.bool (decide_eq_true fn)) ?_
            refine ag 6 29 ?_
            refine aj rr rr ?_
            obtain ⟨i4,If,g⟩:=g
            refine aw rG (rq If es) ?_
            rintro _ Md ⟨rfl,s6⟩
            refine ⟨_,rr,.inl ⟨ae.keep (by exact ae.nil) s6,?_⟩⟩
            obtain ⟨Me,g⟩:=g
            refine iF (a:=1) (b:=i4) rr rr rr (by omega)<|hQ .u32 (a:=(1+i4)) jF e_ rr rr<|aa.fieldAddr 49 oj rr rr ?_
            refine gn s6 5 rr rr rr rr fC rr fun Mf s7=>?_
            simp only [ah,ai,aq,ar] at s7
            refine aa.nil ?_
            refine bo ?_
            exact ⟨(([]:List af) ++((k.getD 1 bg).2.2.2.2.2.2.1)),(k.getD 1 bg).2.2.2.2.2.2.2.2,(BitVec.ofInt 32 (1+i4)),g,hO,h1,id,ro,some ⟨el,0,none⟩,some el,rt,(lit ((k.getD 1 bg).2.2.2.2.2.2.2.2)),(ab (ab (ab (ab (ab (ab au)))))),bt 65 [1,0,2,3,4,5,6,17,18,19,20,21,22,23,24,25,26,27,28,29,30,31,32,33,34,35,36,37,38,39,40,41,42,43,44,45,46,47,48,49,50,51,52,53,54,55,56,57,58,59,60] s7,a3,rx⟩
           ·
            replace g:=az g fn
            refine aO (congrArg Value.bool (decide_eq_false fn)) ?_
            refine ag 8 190 ?_
            refine aa.buildSlice es (ps:= [p8 1 (lit ([9#8]:List af))]) cq bJ df (by decide) (by decide) rr rr (by kernel_rfl) (av.keep ae.nil) fun i5 Mg Mh s8=>?_
            simp only [ao,List.cons_append,List.nil_append] at s8
            have Ig:Ow (some ⟨i5,0,none⟩) (some i5) ([9#8]:List af).length 1 (lit ([9#8]:List af)) ([9#8]:List af):=⟨.inr ⟨i5,rfl,rfl⟩,Nat.le_refl _,rfl,fun q _=>rfl⟩
            refine aE rr rr<|aE rr rr<|aa.len cB rr rr<|F9 (a:=x.length) (b:=63) rr rr rr ?_
            obtain ⟨Ih,g⟩:=g
            refine e6 (lo:=0) (hi:=(min x.length 63)) HU b4 rr rr rr ⟨_,rr⟩ Ih fun Mi Mj Ii=>?_
            obtain ⟨Ij,g⟩:=g
            refine kS (X:=([9#8]:List af)) (Y:=(aT x 0 (min x.length 63))) s8 0 Ig eY b4 rr rr rr rr (Ii.app [_,_,_,_,_,_,_,_,_,_,_,_,_,_,_,_,_,_,_,_,_,_,_,_,_,_,_,_,_,_,_,_,_,_,_,_,_,_,_,_,_,_,_,_,_,_,_,_,_,_,_,_,_,_,_,_,_,_,_,_,_,_,_,_,_,_]) Ij (fun _=>av.keep ae.nil) fun Ik Il Im In Mk Io s9=>?_
            simp only [ah,ai,aq,ar] at s9
            refine aV rr rr<|aa.nil ?_
            refine bo ?_
            exact ⟨(([]:List af) ++((k.getD 1 bg).2.2.2.2.2.2.1)),(([9#8]:List af) ++(aT x 0 (min x.length 63))),(k.getD 1 bg).2.2.2.2.1,g,hO,h1,id,ro,Ik,Il,Im,In,(ab (ab (ab (ab (ab (ab au)))))),bt 66 [2,0,3,4,5,6,7,18,19,20,21,22,23,24,25,26,27,28,29,30,31,32,33,34,35,36,37,38,39,40,41,42,43,44,45,46,47,48,49,50,51,52,53,54,55,56,57,58,59,60,61] s9,a3,Io⟩
         ·
          rintro Ip Ml ⟨io,ce,ip,⟨Iq,Ir,Iu⟩,is,it,em,i0,i1,i2,eq,i3,Iv,i6,s',to⟩
          subst Iq
          subst Ir
          subst Iu
          obtain ⟨Ip,rfl⟩:=Iv.open
          replace g:=H_
          refine sp _ _ ?_;clear sp
          refine ad fun _ ty=>ag 11 2015 ?_
          refine aP i6 50 rr rr rr ba ?_
          refine gu (ps:= [p8 64 (an (fun _=>0#8) 0 (7#8))]) dX mM rr rr (by kernel_rfl) ?_
          refine bO i6 rr rr (.cons 2 rr (.cons 3 rr (.cons 4 rr (.cons 5 rr (.cons 6 rr .nil))))) ei<|aE rr rr<|aE rr rr ?_
          obtain ⟨Iw,Ix,Iy,g⟩:=g
          refine aw vE (yP (iG1:=(d.get t).choose+51) (d.get t).choose_spec (iG2:=(d.get u).choose+51) (d.get u).choose_spec (by exact (s'.bx 0 rr)) (by exact (to.bx 1 rr)) Iy i6) ?_
          rintro _ Mm ⟨rfl,t0⟩
          refine ⟨_,rr,.inr ⟨rr,?_⟩⟩
          refine bK rr rr<|gb rr rr rr<|gb rr rr rr<|a8 rr rr<|a8 rr rr<|aa.fin ty ?_;clear ty
          refine ad fun _ t1=>ad fun _ t2=>?_
          refine ag 2 3 ?_
          refine a_ rr rr<|aa.not rr rr<|aa.fin t2 ?_;clear t2
          by_cases f0:Ix=true
          ·
           replace g:=aA g f0
           refine aO (congrArg Value.bool (congrArg Bool.not f0)) ?_
           refine W.skip ?_
           refine t1 _ _ ?_;clear t1
           refine ad fun _ t3=>?_
           refine fy (B:=B) (L:=L) a7 [⟨22,27,35,[p8 16 (fun _=>0#8),p8 32 (fun _=>0#8),p8 32 (fun _=>0#8),p8 32 (fun _=>0#8),p8 32 (fun _=>0#8),p8 32 (fun _=>0#8),p8 32 (fun _=>0#8),p4 (0#32),p4 (0#32),p4 (0#32),p4 (0#32),p4 (0#32),p4 (0#32),p8 32 (fun _=>0#8),p8 32 (fun _=>0#8),p4 (0#32),p8 64 (fun _=>0#8)]⟩] (dg [1,3,5,7,9,11,13,15,17,19,21,23,25,27,29,31]) [(dg [32,35,37,39,41,43])] (dg [46,49,51,53]) (by kernel_rfl) (by kernel_rfl) (.cons eu .nil) ?_
           have a5:=t0.drew
           refine aD rr rr<|aa.nilCheck rr rr<|bm eS rr rr<|c3 (j:=1) (o':=343) eQ rr rr rr (by omega) rr<|bO a5 rr rr (.cons 24 rr (.cons 25 rr (.cons 26 rr (.cons 27 rr (.cons 28 rr (.cons 29 rr (.cons 30 rr (.cons 31 rr (.cons 32 rr (.cons 33 rr (.cons 34 rr (.cons 35 rr (.cons 36 rr (.cons 37 rr (.cons 38 rr (.cons 39 rr (.cons 40 rr .nil))))))))))))))))) (by kernel_rfl)<|aD rr rr<|aa.nilCheck rr rr<|aa.fieldAddr 686 tx rr rr ?_
           refine c3 (j:=1) (o':=687) sG rr rr rr (by omega) rr<|aX a5 43 rr rr rr (by omega) hr<|bO a5 rr rr (.cons ((d.get z).choose+51) (d.get z).choose_spec (.cons ((d.get A).choose+51) (d.get A).choose_spec (.cons ((d.get E).choose+51) (d.get E).choose_spec (.cons ((d.get F).choose+51) (d.get F).choose_spec (.cons ((d.get G).choose+51) (d.get G).choose_spec (.cons ((d.get H).choose+51) (d.get H).choose_spec .nil)))))) sm<|bO a5 rr rr (.cons 2 rr (.cons 3 rr (.cons 4 rr (.cons 5 rr (.cons 6 rr .nil))))) ei<|aE rr rr<|aE rr rr<|bm kW rr rr<|aP a5 48 rr rr rr ba ?_
           refine aa.nil ⟨_,[_,_,_,_,_,_,_,_,_,_,_,_,_,_,_,_,_,_,_,_,_,_,_,_,_,_,_,_,_,_,_,_,_,_,_,_,_,_,_,_,_,_,_,_,_,_,_,_,_,_,_],a5,(ae.cons 48 rr (ae.parts (.cons 2 rr (.cons 3 rr (.cons 4 rr (.cons 5 rr (.cons 6 rr .nil))))) (ae.parts (.cons ((d.get z).choose+51) (d.get z).choose_spec (.cons ((d.get A).choose+51) (d.get A).choose_spec (.cons ((d.get E).choose+51) (d.get E).choose_spec (.cons ((d.get F).choose+51) (d.get F).choose_spec (.cons ((d.get G).choose+51) (d.get G).choose_spec (.cons ((d.get H).choose+51) (d.get H).choose_spec .nil)))))) (ae.cons 43 rr (ae.parts (.cons 24 rr (.cons 25 rr (.cons 26 rr (.cons 27 rr (.cons 28 rr (.cons 29 rr (.cons 30 rr (.cons 31 rr (.cons 32 rr (.cons 33 rr (.cons 34 rr (.cons 35 rr (.cons 36 rr (.cons 37 rr (.cons 38 rr (.cons 39 rr (.cons 40 rr .nil))))))))))))))))) ae.nil))))),?_⟩
           refine PX.step fun a9 Mn Mo t4=>?_
           simp only [ah,ai] at t4
           obtain ⟨Iz,IA,IB,IC,ID,IE,IF,IG,IH,II,IJ,IK,IL,IM,IN,IO,IP,Mp,Mq,T,IQ,g⟩:=g
           refine aw yx (xC (iG1:=((d.get t).choose+a9.length)+51) (c_ ((d.get t).choose_spec) a9) (iG2:=((d.get u).choose+a9.length)+51) (c_ ((d.get u).choose_spec) a9) (iG3:=((d.get M).choose+a9.length)+51) (c_ ((d.get M).choose_spec) a9) (by exact (cZ gg d4 44 rr)) (by exact (s'.bx 0 rr)) (by exact (to.bx 1 rr)) IQ t4) ?_
           rintro _ Mr ⟨Ms,Mt,Mu,Mv,Mw,Mx,My,Mz,MA,MB,rfl,IR,t5,t6⟩
           try dsimp only at t5 t6
           obtain rfl:=t5.hl
           obtain rfl:=t6.hl
           refine ⟨_,rr,.inr ⟨rr,?_⟩⟩
           refine bK rr rr<|b5 rr rr rr<|dh rr rr rr<|dh rr rr rr<|b' rr rr rr ?_
           refine aa.nil ⟨_,[_,_,_,_,_,_,_,_,_,_,_,_,_,_,_,_,_,_,_,_,_,_,_,_,_,_,_,_,_,_,_,_,_,_,_,_,_,_,_,_,_,_,_,_,_,_,_,_,_,_,_,_,_],IR,ae.nil,?_⟩
           refine PX.done (KE.step fun MC=>(KE.fin fun MD t7=>?_))
           simp only [ao,Nat.zero_add,Nat.reduceAdd,ah,ai] at t7
           refine bA (ps:= [p8 16 Iz,p8 32 IA,p8 32 IB,p8 32 IC,p8 32 ID,p8 32 IE,p8 32 IF,p4 IG,p4 IH,p4 II,p4 IJ,p4 IK,p4 IL,p8 32 IM,p8 32 IN,p4 IO,p8 64 IP]) t7 rr rr rr (cj.run 53) ⟨fun _ _=>rr,fun _ _=>rr,fun _ _=>rr,fun _ _=>rr,fun _ _=>rr,fun _ _=>rr,fun _ _=>rr,fun _ _=>rr,fun _ _=>rr,fun _ _=>rr,fun _ _=>rr,fun _ _=>rr,fun _ _=>rr,fun _ _=>rr,fun _ _=>rr,fun _ _=>rr,fun _ _=>rr,trivial⟩ (by kernel_rfl) (av.keep ae.nil) fun ME co=>?_
           simp only [ao,List.take_succ_cons,List.take_zero,List.drop_succ_cons,List.drop_zero,List.length_cons,List.length_nil,Nat.zero_add,Nat.reduceAdd,List.cons_append,List.nil_append] at co
           refine aV rr rr<|aV rr rr<|ak rr rr<|aa.fin t3 ?_;clear t3
           refine ad fun _ t8=>ad fun _ t9=>?_
           refine ag 1 1 ?_
           refine a_ rr rr<|aa.fin t9 ?_;clear t9
           by_cases f1:Iw=true
           ·
            replace g:=aA g f1
            refine aG (congrArg Value.bool f1) ?_
            refine ad fun _ t'=>ag 3 7 ?_
            refine aj rr rr<|aR (a:=(((T:Nat):Int):Int)) (b:=(0:Int)) (p:=T=0) rr rr rr rr fL<|a8 rr rr<|aa.fin t' ?_;clear t'
            refine W.ret (a' (aB ?_))
            have ul:=St.aF (C:= [_,_,_,_,_,_,_,_,_,_,_,_,_,_,_,_,_,_,_,_,_,_,_,_,_,_,_,_,_,_,_,_,_,_,_,_,_,_,_,_,_,_,_,_,_,_,_,_,_,_,_,_,_,_,_,_,_,_,_,_,_,_,_,_,_,_,_,_,_,_]) co [] (by decide)
            simp only [pick,aL,aK,aM,aJ,ah,ai] at ul
            subst r
            refine ax.mk (.b2 rr .nil) ?_
            obtain ⟨J,o,K⟩:=d
            subst o
            have s:=fV (N:= []) ul
            exact ⟨rr,s⟩
           ·
            replace g:=az g f1
            refine aO (congrArg Value.bool (Bool.eq_false_iff.2 f1)) ?_
            refine W.skip ?_
            refine t8 _ _ ?_;clear t8
            refine ad fun _ f2=>ag 9 447 ?_
            refine aj rr rr ?_
            by_cases f3:T=50
            ·
             replace g:=aA g f3
             refine bI (a:=(((T:Nat):Int):Int)) (b:=(50:Int)) (p:=T=50) (v:=true) rr rr rr rr fL (decide_eq_true f3)<|a_ rr rr<|aD rr rr<|bm kW rr rr<|aP co 50 rr rr rr ba ?_
             have un:=St.aF (C:= [_,_,_,_,_,_,_,_,_,_,_,_,_,_,_,_,_,_,_,_,_,_,_,_,_,_,_,_,_,_,_,_,_,_,_,_,_,_,_,_,_,_,_,_,_,_,_,_,_,_,_,_,_,_,_,_,_,_,_,_,_,_,_,_,_,_,_,_,_,_]) co [9,10,11,12,13,14,15,16,17,18,19,20,21,22,23,24,25,26,27,28,29,30,31,32,33,34,35,36,37,38,39,40,41,42,43,44,45,46,47,48,49,0,1,2,3,4,5,6,7,8,50,51,52,53,54,55,56,57,58,59,60,61,62,63,64,65,66,67,68,69] (by decide)
             simp only [pick,aL,aK,aM,aJ,ah,ai] at un
             obtain ⟨MF,MG,MH,MI,MJ,MK,ML,MM,MN,MO,MP,MQ,MS,MT,MU,MV,MW,MX,MY,MZ,up,IS,g⟩:=g
             refine aw yf (wV (iG1:=(d.get t).choose+29) (d.get t).choose_spec (iG2:=(d.get u).choose+29) (d.get u).choose_spec (iG3:=(d.get M).choose+29) (d.get M).choose_spec (iG1000:=(d.get z).choose+29) (d.get z).choose_spec (iG1001:=(d.get A).choose+29) (d.get A).choose_spec (iG1002:=(d.get E).choose+29) (d.get E).choose_spec (iG1003:=(d.get F).choose+29) (d.get F).choose_spec (iG1004:=(d.get G).choose+29) (d.get G).choose_spec (iG1005:=(d.get H).choose+29) (d.get H).choose_spec (LP:=L) (by exact fun r m=>List.mem_append_right [_,_,_,_,_,_,_,_,_,_,_,_,_,_,_,_,_,_,_,_,_,_,_,_,_,_,_,_,_] ((fun _ h=>h) r m)) (by exact hu) (by exact d4) (by exact LO.grow gG (fun r m=>m) hH) IS un) ?_
             rintro _ M0 ⟨IT,M1,M2,M3,M4,M5,M6,M7,M8,M9,M_,IU,IV,M',IW,IX,rfl,i7,us,ut,i8⟩
             try dsimp only at us ut i8
             obtain rfl:=us.hl
             obtain rfl:=ut.hl
             obtain rfl:=i8.hl
             replace i7:=kA (N:= [_,_,_,_,_,_,_,_,_,_,_,_,_,_,_,_,_,_,_,_,_,_,_,_,_,_,_,_,_,_,_,_,_,_,_,_,_,_,_,_,_]) (R:= [_,_,_,_,_,_,_,_,_,_,_,_,_,_,_,_,_,_,_,_,_,_,_,_,_,_,_,_,_]) i7
             obtain ⟨L,f4⟩:∃X,X=IT ++L:=⟨_,rfl⟩
             have vs:=St.re (N:= [_,_,_,_,_,_,_,_,_,_,_,_,_,_,_,_,_,_,_,_,_,_,_,_,_,_,_,_,_,_,_,_,_,_,_,_,_,_,_,_,_,_,_,_,_,_,_,_,_,_,_,_,_,_,_,_,_,_,_,_,_,_,_,_,_,_,_,_,_,_]) f4 i7
             simp only [ah,ai] at vs
             replace d:dB _ _ L L:=d.step f4 f4
             have Na:LO (dp.at L) [] IU IV ((up).length) IW IX up:=LO.grow gG (fun r m=>(by rw [f4];exact m)) i8
             refine ⟨_,rr,.inr ⟨rr,?_⟩⟩
             refine b0 rr rr rr<|a8 rr rr<|aa.fin f2 ?_;clear f2
             refine W.ret (aB ?_)
             have v0:=St.aF (C:= [_,_,_,_,_,_,_,_,_,_,_,_,_,_,_,_,_,_,_,_,_,_,_,_,_,_,_,_,_,_,_,_,_,_,_,_,_,_,_,_,_,_,_,_,_,_,_,_,_,_,_,_,_,_,_,_,_,_,_,_,_,_,_,_,_,_,_,_,_,_]) vs [] (by decide)
             simp only [pick,aL,aK,aM,aJ,ah,ai] at v0
             subst r
             refine ax.mk (.b2 rr .nil) ?_
             obtain ⟨J,o,K⟩:=d
             subst o
             have s:=fV (N:= []) v0
             exact ⟨rr,s⟩
            ·
             replace g:=az g f3
             refine bI (a:=(((T:Nat):Int):Int)) (b:=(50:Int)) (p:=T=50) (v:=false) rr rr rr rr fL (decide_eq_false f3)<|a_ rr rr<|al rr<|al rr<|al rr<|al rr<|ca rr rr rr<|a8 rr rr ?_
             refine aa.fin f2 ?_;clear f2
             refine W.ret (aB ?_)
             have v1:=St.aF (C:= [_,_,_,_,_,_,_,_,_,_,_,_,_,_,_,_,_,_,_,_,_,_,_,_,_,_,_,_,_,_,_,_,_,_,_,_,_,_,_,_,_,_,_,_,_,_,_,_,_,_,_,_,_,_,_,_,_,_,_,_,_,_,_,_,_,_,_,_,_,_]) co [] (by decide)
             simp only [pick,aL,aK,aM,aJ,ah,ai] at v1
             subst r
             refine ax.mk (.b2 rr .nil) ?_
             obtain ⟨J,o,K⟩:=d
             subst o
             have s:=fV (N:= []) v1
             exact ⟨rr,s⟩
          ·
           replace g:=az g f0
           refine aG (congrArg Value.bool (congrArg Bool.not (Bool.eq_false_iff.2 f0))) ?_
           refine ad fun _ v2=>ag 1 1 ?_
           refine a8 rr rr<|aa.fin v2 ?_;clear v2
           refine W.ret (a' (aB ?_))
           have v3:=St.aF (C:= [_,_,_,_,_,_,_,_,_,_,_,_,_,_,_,_,_,_,_,_,_,_,_,_,_,_,_,_,_,_,_,_,_,_,_,_,_,_,_,_,_,_,_,_,_,_,_,_,_,_,_]) t0 [] (by decide)
           simp only [pick,aL,aK,aM,aJ,ah,ai] at v3
           subst r
           refine ax.mk (.b2 rr .nil) ?_
           obtain ⟨J,o,K⟩:=d
           subst o
           have s:=fV (N:= []) v3
           exact ⟨rr,s⟩
        ·
         replace g:=az g d9
         refine aG (congrArg Value.bool (congrArg Bool.not (Bool.eq_false_iff.2 d9))) ?_
         refine ad fun _ v4=>ag 1 1 ?_
         refine a8 rr rr<|aa.fin v4 ?_;clear v4
         refine W.ret (a' (aB ?_))
         have v5:=St.aF (C:= [_,_,_,_,_,_,_,_,_,_,_,_,_,_,_,_,_,_,_,_,_,_,_,_,_,_,_,_,_,_,_,_,_,_,_,_,_,_,_,_,_,_,_,_,_,_,_,_,_,_,_,_,_,_,_,_,_,_]) d6 [] (by decide)
         simp only [pick,aL,aK,aM,aJ,ah,ai] at v5
         subst r
         refine ax.mk (.b2 rr .nil) ?_
         obtain ⟨J,o,K⟩:=d
         subst o
         have s:=fV (N:= []) v5
         exact ⟨rr,s⟩
       ·
        replace g:=az g d8
        refine a_ (b:=false) rr (congrArg Value.bool (Bool.eq_false_iff.2 d8))<|l9 rr rr<|a_ rr rr<|al rr<|al rr<|b0 rr rr rr<|aa.fin d7 ?_;clear d7
        refine aG rr ?_
        refine ad fun _ v6=>ag 1 1 ?_
        refine a8 rr rr<|aa.fin v6 ?_;clear v6
        refine W.ret (a' (aB ?_))
        have v9:=St.aF (C:= [_,_,_,_,_,_,_,_,_,_,_,_,_,_,_,_,_,_,_,_,_,_,_,_,_,_,_,_,_,_,_,_,_,_,_,_,_,_,_,_,_,_,_,_,_,_,_,_,_,_,_,_,_,_,_,_,_,_]) d6 [] (by decide)
        simp only [pick,aL,aK,aM,aJ,ah,ai] at v9
        subst r
        refine ax.mk (.b2 rr .nil) ?_
        obtain ⟨J,o,K⟩:=d
        subst o
        have s:=fV (N:= []) v9
        exact ⟨rr,s⟩
      ·
       replace g:=az g d5
       refine aG (congrArg Value.bool (congrArg Bool.not (Bool.eq_false_iff.2 d5))) ?_
       refine ad fun _ wd=>ag 1 1 ?_
       refine a8 rr rr<|aa.fin wd ?_;clear wd
       refine W.ret (a' (aB ?_))
       have wf:=St.aF (C:= [_,_,_,_,_,_,_,_,_,_,_,_,_,_,_,_,_,_,_,_,_,_,_,_,_,_,_,_,_,_,_,_,_,_,_,_,_,_,_,_,_,_,_,_,_,_,_,_]) ap [] (by decide)
       simp only [pick,aL,aK,aM,aJ,ah,ai] at wf
       subst r
       refine ax.mk (.b2 rr .nil) ?_
       obtain ⟨J,o,K⟩:=d
       subst o
       have s:=fV (N:= []) wf
       exact ⟨rr,s⟩
     ·
      replace g:=az g d3
      refine a_ (b:=false) rr (congrArg Value.bool (Bool.eq_false_iff.2 d3))<|l9 rr rr<|a_ rr rr<|al rr<|al rr<|al rr<|al rr<|al rr ?_
      refine b0 rr rr rr<|aa.fin d2 ?_;clear d2
      refine aG rr ?_
      refine ad fun _ wl=>ag 1 1 ?_
      refine a8 rr rr<|aa.fin wl ?_;clear wl
      refine W.ret (a' (aB ?_))
      have wn:=St.aF (C:= [_,_,_,_,_,_,_,_,_,_,_,_,_,_,_,_,_,_,_,_,_,_,_,_,_,_,_,_,_,_,_,_,_,_,_,_,_,_,_,_,_,_,_,_,_,_,_,_]) d1 [] (by decide)
      simp only [pick,aL,aK,aM,aJ,ah,ai] at wn
      subst r
      refine ax.mk (.b2 rr .nil) ?_
      obtain ⟨J,o,K⟩:=d
      subst o
      have s:=fV (N:= []) wn
      exact ⟨rr,s⟩
    ·
     replace g:=az g d0
     refine aG (congrArg Value.bool (congrArg Bool.not (Bool.eq_false_iff.2 d0))) ?_
     refine ad fun _ wp=>ag 1 1 ?_
     refine a8 rr rr<|aa.fin wp ?_;clear wp
     refine W.ret (a' (aB ?_))
     have wr:=St.aF (C:= [_,_,_,_,_,_,_,_,_,_,_,_,_,_,_,_,_,_,_,_,_,_,_,_,_,_,_,_,_,_,_,_,_,_,_,_,_,_,_,_,_,_,_,_,_,_]) cd [] (by decide)
     simp only [pick,aL,aK,aM,aJ,ah,ai] at wr
     subst r
     refine ax.mk (.b2 rr .nil) ?_
     obtain ⟨J,o,K⟩:=d
     subst o
     have s:=fV (N:= []) wr
     exact ⟨rr,s⟩
   ·
    replace g:=az g ds
    refine aG (congrArg Value.bool (congrArg Bool.not (Bool.eq_false_iff.2 ds))) ?_
    refine ad fun _ ws=>ag 1 1 ?_
    refine a8 rr rr<|aa.fin ws ?_;clear ws
    refine W.ret (a' (aB ?_))
    have wt:=St.aF (C:= [_,_,_,_,_,_,_,_,_,_,_,_,_,_,_,_,_,_,_,_,_,_,_,_,_,_,_,_,_,_,_,_,_,_,_,_,_,_,_,_,_,_,_,_]) bv [] (by decide)
    simp only [pick,aL,aK,aM,aJ,ah,ai] at wt
    subst r
    refine ax.mk (.b2 rr .nil) ?_
    obtain ⟨J,o,K⟩:=d
    subst o
    have s:=fV (N:= []) wt
    exact ⟨rr,s⟩
  ·
   replace g:=az g dl
   refine a_ (b:=false) rr (congrArg Value.bool (Bool.eq_false_iff.2 dl))<|l9 rr rr<|a_ rr rr<|al rr<|al rr<|al rr<|al rr<|al rr ?_
   refine b0 rr rr rr<|aa.fin c2 ?_;clear c2
   refine aG rr ?_
   refine ad fun _ ww=>ag 1 1 ?_
   refine a8 rr rr<|aa.fin ww ?_;clear ww
   refine W.ret (a' (aB ?_))
   have xs:=St.aF (C:= [_,_,_,_,_,_,_,_,_,_,_,_,_,_,_,_,_,_,_,_,_,_,_,_,_,_,_,_,_,_,_,_,_,_,_,_,_,_,_,_,_,_,_]) gs [] (by decide)
   simp only [pick,aL,aK,aM,aJ,ah,ai] at xs
   subst r
   refine ax.mk (.b2 rr .nil) ?_
   obtain ⟨J,o,K⟩:=d
   subst o
   have s:=fV (N:= []) xs
   exact ⟨rr,s⟩
end Go.Proofs.YtjclppnbbpnfnaaGreatDoor
