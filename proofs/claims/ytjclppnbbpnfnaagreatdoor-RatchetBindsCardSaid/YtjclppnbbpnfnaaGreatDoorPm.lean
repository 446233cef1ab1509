import Derived.Test.YtjclppnbbpnfnaaGreatDoorRSha
import Derived.Test.YtjclppnbbpnfnaaGreatDoorRKdf
import Derived.Test.YtjclppnbbpnfnaaGreatDoorRAes
import Derived.Test.YtjclppnbbpnfnaaGreatDoorRSeal
import Derived.Test.YtjclppnbbpnfnaaGreatDoorRField
import Derived.Test.YtjclppnbbpnfnaaGreatDoorFldT
import Derived.Test.YtjclppnbbpnfnaaGreatDoorRCurve
import Derived.Test.YtjclppnbbpnfnaaGreatDoorRChain
import Derived.Test.YtjclppnbbpnfnaaGreatDoorRRatchet
import Derived.Test.YtjclppnbbpnfnaaGreatDoorRLaw16
namespace Go.Proofs.YtjclppnbbpnfnaaGreatDoor
set_option linter.unusedSimpArgs false
set_option linter.unusedVariables false
set_option linter.unusedSectionVars false
open Go Go.LW
theorem jK {S X:Type} {step:S→S ⊕ X→Prop} (a:S→Prop) (Q:X→Prop) (b:S→Nat)
   (h:∀s,a s→(∃x,step s (.inr x)∧Q x)∨∃s',step s (.inl s')∧a s'∧b s' < b s):∀n s,b s < n→a s→∃x,Iter step s x∧Q x
 | 0,s,d,_=>absurd d (Nat.not_lt_zero _)
 | n+1,s,d,e=>by
   rcases h s e with ⟨x,hx,c⟩ | ⟨s',hs,f,hm⟩
   · exact ⟨x,.done hx,c⟩
   · obtain ⟨x,hx,c⟩:=jK a Q b h n s' (by omega) f
     exact ⟨x,.more hs hx,c⟩
theorem uA {X Y:List af} (hl:X.length=Y.length) (h:∀q,q < X.length→lit X q=lit Y q):X=Y:=by
 rw [← om X,← om Y,← hl]
 exact List.map_congr_left fun q hq=>h q (List.mem_range.1 hq)
theorem qZ {m:Nat} {f g:Nat→af} (h:∀q,q < m→f q=g q):dl m f=dl m g:=List.map_congr_left fun q hq=>h q (List.mem_range.1 hq)
theorem Al:∀n:Fin 32,0 < n.val→(BitVec.ofInt 64 (-(n.val:Int)) &&& 31#64).toNat=32 - n.val∧((32#64) - (BitVec.ofInt 64 (-(n.val:Int)) &&& 31#64)).toNat=n.val:=by decide +kernel
theorem hz (n:Nat) (a:0 < n) (h1:n < 32) (x:BitVec 32):fM (n:Int) x (x.rotateRight n):=by
 refine ⟨by omega,_,rfl,?_⟩
 obtain ⟨b,c⟩:=Al ⟨n,h1⟩ a
 rw [b,c,BitVec.rotateRight_def,Nat.mod_eq_of_lt h1,BitVec.or_comm]
theorem zW (s:H8):∀i,i < 8→lit [s.a,s.b,s.c,s.d,s.e,s.f,s.g,s.h] i=s.at i:=fun i hi=>by
 rcases (by omega:i=0∨i=1∨i=2∨i=3∨i=4∨i=5∨i=6∨i=7) with rfl | rfl | rfl | rfl | rfl | rfl | rfl | rfl <;> rfl
theorem CZ (st:Nat→BitVec 32) (bz:Nat→BitVec 8):pN st bz (compress bE st bz):=by
 refine ⟨jA bz 16,?_,de bz 48,?_,?_⟩
 · refine b7 (fun i=>(i,jA bz i)) 16 (fun i hi=>?_) ?_
   · unfold pr;dsimp only;rw [if_pos hi];rfl
   · unfold pr;dsimp only;rw [if_neg (by omega)]
 · refine b7 (fun i=>(16+i,de bz i)) 48 (fun i hi=>?_) ?_
   · unfold nF;dsimp only
     rw [if_pos (by omega),show (((16+i:Nat):Int) - 2).toNat=16+i - 2 by omega,show (((16+i:Nat):Int) - 15).toNat=16+i - 15 by omega,
       show (((16+i:Nat):Int) - 7).toNat=16+i - 7 by omega,show (((16+i:Nat):Int) - 16).toNat=16+i - 16 by omega]
     exact ⟨by omega,by omega,by omega,by omega,_,hz 17 (by decide) (by decide) _,_,hz 19 (by decide) (by decide) _,_,hz 7 (by decide) (by decide) _,_,hz 18 (by decide) (by decide) _,rfl⟩
   · unfold nF;dsimp only;rw [if_neg (by omega)]
 · refine ⟨(rounds bE (de bz 48) (H8.of st) 64).a,(rounds bE (de bz 48) (H8.of st) 64).b,(rounds bE (de bz 48) (H8.of st) 64).c,(rounds bE (de bz 48) (H8.of st) 64).d,(rounds bE (de bz 48) (H8.of st) 64).e,(rounds bE (de bz 48) (H8.of st) 64).f,(rounds bE (de bz 48) (H8.of st) 64).g,(rounds bE (de bz 48) (H8.of st) 64).h,?_,ij st (rounds bE (de bz 48) (H8.of st) 64).at 8,?_,rfl⟩
   · exact b7 (fun i=>
       ((rounds bE (de bz 48) (H8.of st) i).a,(rounds bE (de bz 48) (H8.of st) i).b,(rounds bE (de bz 48) (H8.of st) i).c,(rounds bE (de bz 48) (H8.of st) i).d,(rounds bE (de bz 48) (H8.of st) i).e,(rounds bE (de bz 48) (H8.of st) i).f,(rounds bE (de bz 48) (H8.of st) i).g,(rounds bE (de bz 48) (H8.of st) i).h,i)) 64 (fun i hi=>by
       unfold pv;dsimp only;rw [if_pos hi]
       exact ⟨_,hz 6 (by decide) (by decide) _,_,hz 11 (by decide) (by decide) _,_,hz 25 (by decide) (by decide) _,_,hz 2 (by decide) (by decide) _,_,hz 13 (by decide) (by decide) _,_,hz 22 (by decide) (by decide) _,rfl⟩) (by
       unfold pv;dsimp only;rw [if_neg (by omega)])
   · refine b7 (fun i=>(i,ij st (rounds bE (de bz 48) (H8.of st) 64).at i)) 8 (fun i hi=>?_) ?_
     · unfold oV;dsimp only;rw [if_pos hi,zW _ i hi];rfl
     · unfold oV;dsimp only;rw [if_neg (by omega)]
def dT (X:List af) (st:Nat→BitVec 32) (bz:Nat→BitVec 8):Prop:=eD bE cH X.length (lit X) st bz
theorem dT.nil:dT [] cH (fun _=>0#8):=eD.zero _ _ _ _
theorem sV (N:Nat):((N:Int).tmod 64)=((N % 64:Nat):Int):=by rw [Int.tmod_eq_emod_of_nonneg (by omega)];omega
theorem yT (X Y:List af) {c:Nat} (hc:c≤Y.length):∀q,q < X.length+c→bh (lit X) X.length c (lit Y) q=lit (X ++aT Y 0 c) q:=fun q hq=>by
 rw [sF]
 by_cases h:q < X.length
 · rw [if_pos h,c7 _ _ _ _ _ (by omega)]
 · rw [if_neg h,eh _ _ _ _ _ (by omega),mY hc (by omega),Nat.zero_add]
theorem kp {X Y:List af} {st:Nat→BitVec 32} {bz:Nat→BitVec 8} (h:dT X st bz) (hl:X.length+Y.length < 4611686018427387904):
   ∃d e,im st bz (X.length:Int) Y (d,e,((X ++Y).length:Int))∧dT (X ++Y) d e:=by
 obtain ⟨⟨d,e,r⟩,l,i,hH⟩:=jK (step:=oR)
   (fun s:(List af)×(Nat→BitVec 32)×(Nat→BitVec 8)×Int=>∃Z,Z ++s.1=X ++Y∧dT Z s.2.1 s.2.2.1∧s.2.2.2=(Z.length:Int))
   (fun x:(Nat→BitVec 32)×(Nat→BitVec 8)×Int=>x.2.2=((X ++Y).length:Int)∧dT (X ++Y) x.1 x.2.1) (fun s=>s.1.length) (by
   rintro ⟨b,st,bz,n⟩ ⟨Z,a,hH,rfl⟩
   have t:Z.length+b.length=X.length+Y.length:=by rw [← List.length_append,a,List.length_append]
   unfold oR
   dsimp only at a hH ⊢
   by_cases hb:0 < b.length
   · refine .inr ?_
     rw [sV,show ((Z.length % 64:Nat):Int).toNat=Z.length % 64 from rfl]
     have hm:min b.length (64 - Z.length % 64)≤b.length:=Nat.min_le_left _ _
     have m:min b.length (64 - Z.length % 64)≤64 - Z.length % 64:=Nat.min_le_right _ _
     have o:0 < min b.length (64 - Z.length % 64):=by omega
     generalize hc:min b.length (64 - Z.length % 64)=c at hm m o
     have p:(Z.length:Int)+(c:Int)=((Z.length+c:Nat):Int):=by omega
     have q:(aT b 0 c).length=c:=by rw [fv hm];omega
     have f:(Z ++aT b 0 c).length=Z.length+c:=by rw [List.length_append,q]
     have j:(Z ++aT b 0 c) ++aT b c b.length=X ++Y:=by rw [List.append_assoc,zl ⟨by omega,hm,Nat.le_refl _⟩,Ck];exact a
     have k:(aT b c b.length).length < b.length:=by rw [fv (Nat.le_refl _)];omega
     simp only [if_pos hb]
     rw [p,sV]
     by_cases hw:(Z.length+c) % 64=0
     · refine ⟨(aT b c b.length,compress bE st (bh bz (Z.length % 64) c (lit b)),bh bz (Z.length % 64) c (lit b),((Z.length+c:Nat):Int)),⟨by omega,by omega,by omega,by omega,?_⟩,⟨_,j,?_,?_⟩,k⟩
       · rw [if_pos (by omega)];exact ⟨_,CZ _ _,rfl⟩
       · have:=eD.congr (eD.whole (g:=lit b) hH (show Z.length % 64+c=64 by omega)) (yT Z b hm)
         unfold dT;rw [f];exact this
       · rw [f]
     · refine ⟨(aT b c b.length,st,bh bz (Z.length % 64) c (lit b),((Z.length+c:Nat):Int)),⟨by omega,by omega,by omega,by omega,?_⟩,⟨_,j,?_,?_⟩,k⟩
       · rw [if_neg (by omega)]
       · have:=eD.congr (eD.part (g:=lit b) hH (show Z.length % 64+c < 64 by omega)) (yT Z b hm)
         unfold dT;rw [f];exact this
       · rw [f]
   · refine .inl ⟨_,by rw [if_neg hb],?_⟩
     obtain rfl:b= []:=List.length_eq_zero_iff.1 (by omega)
     rw [List.append_nil] at a
     subst a
     exact ⟨rfl,hH⟩) (Y.length+1) (Y,st,bz,(X.length:Int)) (Nat.lt_succ_self _) ⟨X,rfl,h,rfl⟩
 dsimp only at i hH
 subst i
 exact ⟨d,e,⟨_,_,_,l,rfl⟩,hH⟩
def iD (N i:Nat):af:=(((8#64)*(BitVec.ofNat 64 N)) >>> (56 - 8*i)).setWidth 8
def fJ (X:List af):List af:=X ++128#8::List.replicate ((119 - X.length % 64) % 64) 0#8
def mS (X:List af):List af:=fJ X ++(List.range 8).map (iD X.length)
def jI (X:List af):Nat→af:=jk (jJ bE cH (lit (mS X)) ((mS X).length / 64)) 8
theorem xV (X:List af):(fJ X).length=X.length+1+(119 - X.length % 64) % 64:=by
 unfold fJ;rw [List.length_append,List.length_cons,List.length_replicate];omega
theorem v8 {s s':Nat→BitVec 32}:∀k,(∀i,i < k→s i=s' i)→jk s k=jk s' k
 | 0,_=>rfl
 | k+1,h=>by simp only [jk];rw [v8 k fun i hi=>h i (by omega),h k (by omega)]
theorem vU {X:List af} {st:Nat→BitVec 32} {bz:Nat→BitVec 8} (h:dT X st bz) (hl:X.length < 2305843009213693952):
   na st bz (X.length:Int) (jI X):=by
 obtain ⟨s1,g,j,h1⟩:=kp (Y:= [128#8]) h (by simp only [List.length_cons,List.length_nil];omega)
 refine ⟨_,_,_,rfl,_,_,_,j,?_⟩
 obtain ⟨⟨s2,l,r⟩,m,a,h2⟩:=jK (step:=nC)
   (fun s:(Nat→BitVec 32)×(Nat→BitVec 8)×Int=>∃k,k≤(119 - X.length % 64) % 64∧dT (X ++128#8::List.replicate k 0#8) s.1 s.2.1∧s.2.2=((X.length+1+k:Nat):Int))
   (fun x:(Nat→BitVec 32)×(Nat→BitVec 8)×Int=>x.2.2=((fJ X).length:Int)∧dT (fJ X) x.1 x.2.1) (fun s=>1000000+X.length - s.2.2.toNat) (by
   rintro ⟨st,bz,n⟩ ⟨k,hk,hH,a⟩
   dsimp only at hH a ⊢
   subst a
   unfold nC
   dsimp only
   rw [sV]
   have c:(X ++128#8::List.replicate k 0#8).length=X.length+1+k:=by rw [List.length_append,List.length_cons,List.length_replicate];omega
   by_cases hw:(X.length+1+k) % 64=56
   · refine .inl ⟨_,by rw [if_neg (by omega)],?_⟩
     have:k=(119 - X.length % 64) % 64:=by omega
     dsimp only
     rw [xV,← this]
     refine ⟨rfl,?_⟩
     unfold fJ;rw [← this];exact hH
   · obtain ⟨s3,o,b,h3⟩:=kp (Y:= [0#8]) hH (by rw [c,List.length_cons,List.length_nil];omega)
     rw [c] at b
     have d:(X ++128#8::List.replicate k 0#8) ++ [0#8]=X ++128#8::List.replicate (k+1) 0#8:=by
       rw [List.append_assoc,List.cons_append,← List.replicate_succ']
     rw [d] at b h3
     refine .inr ⟨_,by rw [if_pos (by omega)];exact ⟨_,_,_,b,rfl⟩,⟨k+1,by omega,h3,?_⟩,?_⟩
     · dsimp only;rw [List.length_append,List.length_cons,List.length_replicate];omega
     · dsimp only;rw [List.length_append,List.length_cons,List.length_replicate];omega) (1000001+X.length) (s1,g,((X ++ [128#8]).length:Int)) (by dsimp only;omega) ⟨0,Nat.zero_le _,h1,by dsimp only;rw [List.length_append];rfl⟩
 dsimp only at a h2
 subst a
 refine ⟨_,_,_,m,?_⟩
 obtain ⟨⟨s4,u,v⟩,p,e,f⟩:=jK (step:=oP (X.length:Int))
   (fun s:Nat×(Nat→BitVec 32)×(Nat→BitVec 8)×Int=>s.1≤8∧dT (fJ X ++(List.range s.1).map (iD X.length)) s.2.1 s.2.2.1∧s.2.2.2=(((fJ X).length+s.1:Nat):Int))
   (fun x:(Nat→BitVec 32)×(Nat→BitVec 8)×Int=>x.2.2=((mS X).length:Int)∧dT (mS X) x.1 x.2.1) (fun s=>8 - s.1) (by
   rintro ⟨t,st,bz,n⟩ ⟨q,hH,a⟩
   dsimp only at q hH a ⊢
   subst a
   unfold oP
   dsimp only
   have c:(fJ X ++(List.range t).map (iD X.length)).length=(fJ X).length+t:=by rw [List.length_append,List.length_map,List.length_range]
   by_cases hw:t < 8
   · obtain ⟨s3,o,b,h3⟩:=kp (Y:= [iD X.length t]) hH (by rw [c,List.length_cons,List.length_nil,xV];omega)
     rw [c] at b
     have d:(fJ X ++(List.range t).map (iD X.length)) ++ [iD X.length t]=fJ X ++(List.range (t+1)).map (iD X.length):=by
       rw [List.append_assoc,List.range_succ,List.map_append];rfl
     rw [d] at b h3
     refine .inr ⟨_,by rw [if_pos hw];exact ⟨_,_,_,by simpa only [iD,BitVec.ofInt_natCast] using b,rfl⟩,⟨by dsimp only;omega,h3,?_⟩,by dsimp only;omega⟩
     dsimp only;rw [List.length_append,List.length_map,List.length_range]
   · refine .inl ⟨_,by rw [if_neg hw],?_⟩
     obtain rfl:t=8:=by omega
     exact ⟨by dsimp only;unfold mS;rw [List.length_append,List.length_map,List.length_range],hH⟩) 9 (0,s2,l,((fJ X).length:Int)) (by dsimp only;omega) ⟨Nat.zero_le _,by simpa using h2,rfl⟩
 dsimp only at e f
 subst e
 refine ⟨_,_,_,p,jk s4 8,?_,?_⟩
 · refine b7 (fun i=>(i,jk s4 i)) 8 (fun i hi=>?_) ?_
   · unfold ql;dsimp only;rw [if_pos hi];rfl
   · unfold ql;dsimp only;rw [if_neg (by omega)]
 · exact v8 8 fun i hi=>(f.px i hi).symm
theorem xv {P:List (List af)} {t:Nat} (h:t < P.length):(P.take (t+1)).flatten=(P.take t).flatten ++P.getD t []:=by
 rw [List.take_succ_eq_append_getElem h,List.flatten_append]
 simp [List.getD,h]
theorem yg (P:List (List af)) (t:Nat):(P.take t).flatten.length≤P.flatten.length:=by
 conv=>rhs;rw [← List.take_append_drop t P,List.flatten_append,List.length_append]
 omega
theorem xq {P:List (List af)} (hp:P.length < 4611686018427387904) (hl:P.flatten.length < 2305843009213693952):lN P (jI P.flatten):=by
 refine ⟨_,_,_,rfl,?_⟩
 obtain ⟨⟨s2,f,g⟩,c,a,h2⟩:=jK (step:=oZ P)
   (fun s:Nat×(Nat→BitVec 32)×(Nat→BitVec 8)×Int=>s.1≤P.length∧dT (P.take s.1).flatten s.2.1 s.2.2.1∧s.2.2.2=((P.take s.1).flatten.length:Int))
   (fun x:(Nat→BitVec 32)×(Nat→BitVec 8)×Int=>x.2.2=(P.flatten.length:Int)∧dT P.flatten x.1 x.2.1) (fun s=>P.length - s.1) (by
   rintro ⟨t,st,bz,n⟩ ⟨d,hH,a⟩
   dsimp only at d hH a ⊢
   subst a
   unfold oZ
   dsimp only
   by_cases hw:t < P.length
   · have hf:=xv hw
     have e:=yg P (t+1)
     rw [hf,List.length_append] at e
     obtain ⟨s3,h,b,h3⟩:=kp (Y:=P.getD t []) hH (by omega)
     rw [← hf] at b h3
     exact .inr ⟨_,by rw [if_pos hw];exact ⟨hw,_,_,_,b,by omega,rfl⟩,⟨by dsimp only;omega,h3,rfl⟩,by dsimp only;omega⟩
   · refine .inl ⟨_,by rw [if_neg hw],?_⟩
     obtain rfl:t=P.length:=by omega
     rw [List.take_length] at hH ⊢
     exact ⟨rfl,hH⟩) (P.length+1) (0,cH,(fun _=>0#8),((0:Nat):Int)) (by dsimp only;omega) ⟨Nat.zero_le _,dT.nil,rfl⟩
 dsimp only at a h2
 subst a
 exact ⟨_,_,_,c,_,vU h2 hl,rfl⟩
end Go.Proofs.YtjclppnbbpnfnaaGreatDoor
namespace Go.Proofs.YtjclppnbbpnfnaaGreatDoor
set_option linter.unusedSimpArgs false
set_option linter.unusedVariables false
set_option linter.unusedSectionVars false
open Go Go.LW
set_option linter.unusedVariables false
def qM (X:List af):List af:=if 64 < X.length then dl 32 (jI X) else X
def jo (X:List af) (x:af):List af:=dl 64 fun q=>lit (qM X) q ^^^ x
def fT (X Z:List af):Nat→af:=jI (jo X 92#8 ++dl 32 (jI (jo X 54#8 ++Z)))
theorem xL (X:List af) (x:af):(jo X x).length=64:=ea _ _
theorem FZ {X:List af} {q:Nat} (h:X.length≤q):lit X q=0#8:=by unfold lit;simp [List.getD,h]
def fU (f:Nat→af) (x:af) (t:Nat):Nat→af:=fun q=>if q < t then f q ^^^ x else f q
theorem wS (f:Nat→af) (x:af) (t:Nat):an (fU f x t) t (fU f x t t ^^^ x)=fU f x (t+1):=by
 funext q
 rw [da]
 unfold fU
 by_cases h:q=t
 · subst h;rw [if_pos rfl,if_neg (by omega),if_pos (by omega)]
 · rw [if_neg h]
   by_cases h2:q < t
   · rw [if_pos h2,if_pos (by omega)]
   · rw [if_neg h2,if_neg (by omega)]
theorem u' (K:List af) (x:af) {c:Nat} (hc:c=K.length):∀q,q < 64→fU (bh (fun _=>0#8) 0 c (lit K)) x 64 q=lit K q ^^^ x:=fun q hq=>by
 subst hc
 unfold fU
 rw [if_pos hq]
 by_cases h:q < K.length
 · rw [eh _ _ _ _ _ (by omega),Nat.sub_zero]
 · rw [c7 _ _ _ _ _ (by omega),FZ (by omega)]
theorem yD {X:List af} (hl:X.length < 2305843009213693952) (x:af):kG X x (jo X x):=by
 unfold kG
 by_cases h:64 < X.length
 · rw [if_pos h]
   refine ⟨_,xq (by simp) (by simpa using hl),fU (bh (fun _=>0#8) 0 32 (lit (dl 32 (jI X)))) x 64,?_,?_⟩
   · simp only [List.flatten_cons,List.flatten_nil,List.append_nil]
     refine b7 (fun i=>(i,fU (bh (fun _=>0#8) 0 32 (lit (dl 32 (jI X)))) x i)) 64 (fun i hi=>?_) ?_
     · unfold n2;dsimp only;rw [if_pos hi,wS]
     · unfold n2;dsimp only;rw [if_neg (by omega)]
   · unfold jo qM
     rw [if_pos h]
     exact (qZ (u' _ x (ea _ _).symm)).symm
 · rw [if_neg h]
   refine ⟨fU (bh (fun _=>0#8) 0 (min X.length 64) (lit X)) x 64,?_,?_⟩
   · refine b7 (fun i=>(i,fU (bh (fun _=>0#8) 0 (min X.length 64) (lit X)) x i)) 64 (fun i hi=>?_) ?_
     · unfold pF;dsimp only;rw [if_pos hi,wS]
     · unfold pF;dsimp only;rw [if_neg (by omega)]
   · unfold jo qM
     rw [if_neg h]
     exact (qZ (u' _ x (by omega))).symm
theorem lV {X:List af} {P:List (List af)} (hx:X.length < 2305843009213693952) (hp:P.length < 4611686018427387904) (hl:P.flatten.length < 1152921504606846976):dy X P (fT X P.flatten):=by
 have c:=yD hx 54#8
 have b:=xL X 54#8
 unfold fT
 generalize jo X 54#8=K at c b ⊢
 obtain ⟨s1,f,d,h1⟩:=kp (Y:=K) dT.nil (by rw [b];decide)
 rw [List.nil_append] at d h1
 refine ⟨_,_,_,rfl,_,c,_,_,_,d,?_⟩
 obtain ⟨⟨s2,j,k⟩,g,a,h2⟩:=jK (step:=oi P)
   (fun s:Nat×(Nat→BitVec 32)×(Nat→BitVec 8)×Int=>s.1≤P.length∧dT (K ++(P.take s.1).flatten) s.2.1 s.2.2.1∧s.2.2.2=((K ++(P.take s.1).flatten).length:Int))
   (fun x:(Nat→BitVec 32)×(Nat→BitVec 8)×Int=>x.2.2=((K ++P.flatten).length:Int)∧dT (K ++P.flatten) x.1 x.2.1) (fun s=>P.length - s.1) (by
   rintro ⟨t,st,bz,n⟩ ⟨h,hH,a⟩
   dsimp only at h hH a ⊢
   subst a
   unfold oi
   dsimp only
   by_cases hw:t < P.length
   · have hf:=xv hw
     have i:=yg P (t+1)
     rw [hf,List.length_append] at i
     obtain ⟨s3,l,e,h3⟩:=kp (Y:=P.getD t []) hH (by rw [List.length_append,b];omega)
     rw [List.append_assoc,← hf] at e h3
     exact .inr ⟨_,by rw [if_pos hw];exact ⟨hw,_,_,_,e,by omega,rfl⟩,⟨by dsimp only;omega,h3,rfl⟩,by dsimp only;omega⟩
   · refine .inl ⟨_,by rw [if_neg hw],?_⟩
     obtain rfl:t=P.length:=by omega
     rw [List.take_length] at hH ⊢
     exact ⟨rfl,hH⟩) (P.length+1) (0,s1,f,((K).length:Int)) (by dsimp only;omega) ⟨Nat.zero_le _,by dsimp only;rw [List.take_zero,List.flatten_nil,List.append_nil];exact h1,by dsimp only;rw [List.take_zero,List.flatten_nil,List.append_nil]⟩
 dsimp only at a h2
 subst a
 refine ⟨_,_,_,g,_,vU h2 (by rw [List.length_append,b];omega),_,yD hx _,_,xq (by simp) (by simp only [List.flatten_cons,List.flatten_nil,List.append_nil,List.length_append,xL,ea];decide),?_⟩
 simp only [List.flatten_cons,List.flatten_nil,List.append_nil]
theorem zN {X Z:List af} (hx:X.length < 2305843009213693952) (hl:Z.length < 1152921504606846976):p0 X Z (fT X Z):=by
 have:=lV (P:= [Z]) hx (by simp) (by simpa using hl)
 simp only [List.flatten_cons,List.flatten_nil,List.append_nil] at this
 exact ⟨_,this,rfl⟩
def kN (a info:List af):Nat→List af
 | 0=> []
 | i+1=>dl 32 (fT a (kN a info i ++(info ++ [BitVec.ofNat 8 (i+1)])))
def kc (a info:List af):Nat→List af
 | 0=> []
 | i+1=>kc a info i ++kN a info (i+1)
theorem vd (a info:List af):∀i,(kN a info (i+1)).length=32:=fun i=>ea _ _
theorem FF (a info:List af):∀i,(kN a info i).length≤32
 | 0=>Nat.zero_le _
 | i+1=>by rw [vd];omega
theorem mv (a info:List af):∀i,(kc a info i).length=32*i
 | 0=>rfl
 | i+1=>by show (kc a info i ++kN a info (i+1)).length=_;rw [List.length_append,mv a info i,vd];omega
def kZ (a info:List af) (n:Nat):List af:=aT (kc a info ((n+31) / 32)) 0 n
theorem vO (a info:List af) (n:Nat):(kZ a info n).length=n:=by
 unfold kZ;rw [fv (by rw [mv];omega)];omega
theorem Bv {a info:List af} {n:Nat} (hp:a.length < 2305843009213693952) (hi:info.length < 1000000) (b:n≤8160):
   mQ a info (n:Int) (kZ a info n,0):=by
 unfold mQ
 rw [if_neg (by omega),if_neg (by omega)]
 refine ⟨by omega,by omega,kc a info ((n+31) / 32),?_,by omega,by rw [mv];omega,rfl⟩
 refine b7 (fun i=>(kc a info i,kN a info i,i+1)) ((n+31) / 32) (fun i c=>?_) ?_
 · unfold pV;dsimp only
   have hl:=mv a info i
   have d:=FF a info i
   rw [if_pos (by omega)]
   refine ⟨_,lV hp (by simp) (by simp only [List.flatten_cons,List.flatten_nil,List.append_nil,List.length_append,List.length_cons,List.length_nil];omega),by omega,by omega,?_⟩
   simp only [List.flatten_cons,List.flatten_nil,List.append_nil]
   rfl
 · unfold pV;dsimp only
   have hl:=mv a info ((n+31) / 32)
   rw [if_neg (by omega)]
theorem uZ {a key info:List af} {n:Nat} (hs:a.length < 2305843009213693952) (hk:key.length < 1152921504606846976) (hi:info.length < 1000000) (b:n≤8160):
   jj a key info (n:Int) (kZ (dl 32 (fT a key)) info n,0):=
 ⟨_,zN hs hk,_,_,Bv (by rw [ea];decide) hi b,rfl⟩
end Go.Proofs.YtjclppnbbpnfnaaGreatDoor
namespace Go.Proofs.YtjclppnbbpnfnaaGreatDoor
set_option linter.unusedSimpArgs false
set_option linter.unusedVariables false
set_option linter.unusedSectionVars false
open Go Go.LW
def xt (a:BitVec 8):BitVec 8:=if a &&& 128#8≠0#8 then (a <<< 1) ^^^ 27#8 else a <<< 1
def jM:Nat→BitVec 8→BitVec 8→BitVec 8→BitVec 8
 | 0,_,_,out=>out
 | n+1,a,b,out=>jM n (xt a) (b >>> 1) (if b &&& 1#8=1#8 then out ^^^ a else out)
def lU (a b:BitVec 8):BitVec 8:=jM 8 a b 0#8
theorem vw:∀(n:Nat) (a out:BitVec 8),jM n a 0#8 out=out
 | 0,_,_=>rfl
 | n+1,a,out=>by
   unfold jM
   rw [if_neg (by decide),show (0#8 >>> 1:BitVec 8)=0#8 by decide]
   exact vw n _ _
theorem AJ:∀(n:Nat) (a b out:BitVec 8),b.toNat < 2 ^ n→Iter k2 (a,b,out) (jM n a b out):=by
 intro n
 induction n with
 | zero=>
   intro a b out hb
   obtain rfl:b=0#8:=by
     apply BitVec.eq_of_toNat_eq;simp at hb ⊢;exact hb
   refine .done ?_
   simp [k2,jM]
 | succ n d=>
   intro a b out hb
   by_cases c:b=0#8
   · subst c
     rw [vw]
     refine .done ?_
     simp [k2]
   · refine .more (s':=(xt a,b >>> 1,if b &&& 1#8=1#8 then out ^^^ a else out)) ?_ ?_
     · unfold k2 xt
       simp only [ne_eq,c,not_false_eq_true,if_true]
       refine ⟨if b &&& 1#8=1#8 then out ^^^ a else out,?_,?_⟩
       · split <;> simp_all
       · split <;> simp_all
     · unfold jM
       refine d _ _ _ ?_
       rw [BitVec.toNat_ushiftRight,Nat.shiftRight_eq_div_pow]
       have:(2:Nat) ^ (n+1)=2 ^ n*2:=Nat.pow_succ ..
       omega
theorem pI (a b:BitVec 8):jG a b (lU a b):=⟨_,AJ 8 a b 0#8 b.isLt,rfl⟩
def xE (F:BitVec 8→BitVec 8):Prop:=∀x y,F (x ^^^ y)=F x ^^^ F y
theorem xE.zero {F:BitVec 8→BitVec 8} (h:xE F):F 0#8=0#8:=by
 have:=h 0#8 0#8
 rw [show (0#8 ^^^ 0#8:BitVec 8)=0#8 by decide] at this
 have h2:F 0#8 ^^^ F 0#8=0#8:=BitVec.xor_self
 rw [h2] at this;exact this
end Go.Proofs.YtjclppnbbpnfnaaGreatDoor
namespace Go.Proofs.YtjclppnbbpnfnaaGreatDoor
set_option linter.unusedSimpArgs false
set_option linter.unusedVariables false
set_option linter.unusedSectionVars false
open Go Go.LW
def gJ (l:List Nat) (i:Nat):BitVec 8:=BitVec.ofNat 8 (l.getD i 0)
def mF:List Nat:= [1,3,5,15,17,51,85,255,26,46,114,150,161,248,19,53,95,225,56,72,216,115,149,164,247,2,6,10,30,34,102,170,229,52,92,228,55,89,235,38,106,190,217,112,144,171,230,49,83,245,4,12,20,60,68,204,79,209,104,184,211,110,178,205,76,212,103,169,224,59,77,215,98,166,241,8,24,40,120,136,131,158,185,208,107,189,220,127,129,152,179,206,73,219,118,154,181,196,87,249,16,48,80,240,11,29,39,105,187,214,97,163,254,25,43,125,135,146,173,236,47,113,147,174,233,32,96,160,251,22,58,78,210,109,183,194,93,231,50,86,250,21,63,65,195,94,226,61,71,201,64,192,91,237,44,116,156,191,218,117,159,186,213,100,172,239,42,126,130,157,188,223,122,142,137,128,155,182,193,88,232,35,101,175,234,37,111,177,200,67,197,84,252,31,33,99,165,244,7,9,27,45,119,153,176,203,70,202,69,207,74,222,121,139,134,145,168,227,62,66,198,81,243,14,18,54,90,238,41,123,141,140,143,138,133,148,167,242,13,23,57,75,221,124,132,151,162,253,28,36,108,180,199,82,246,1]
def my:List Nat:= [1,246,82,199,180,108,36,28,253,162,151,132,124,221,75,57,23,13,242,167,148,133,138,143,140,141,123,41,238,90,54,18,14,243,81,198,66,62,227,168,145,134,139,121,222,74,207,69,202,70,203,176,153,119,45,27,9,7,244,165,99,33,31,252,84,197,67,200,177,111,37,234,175,101,35,232,88,193,182,155,128,137,142,122,223,188,157,130,126,42,239,172,100,213,186,159,117,218,191,156,116,44,237,91,192,64,201,71,61,226,94,195,65,63,21,250,86,50,231,93,194,183,109,210,78,58,22,251,160,96,32,233,174,147,113,47,236,173,146,135,125,43,25,254,163,97,214,187,105,39,29,11,240,80,48,16,249,87,196,181,154,118,219,73,206,179,152,129,127,220,189,107,208,185,158,131,136,120,40,24,8,241,166,98,215,77,59,224,169,103,212,76,205,178,110,211,184,104,209,79,204,68,60,20,12,4,245,83,49,230,171,144,112,217,190,106,38,235,89,55,228,92,52,229,170,102,34,30,10,6,2,247,164,149,115,216,72,56,225,95,53,19,248,161,150,114,46,26,255,85,51,17,15,5,3,1]
def p2 (v:BitVec 8):Nat→BitVec 8
 | 0=>v
 | i+1=>p2 v i ^^^ ((v <<< (1+i)) ||| (v >>> (8 - (1+i))))
def kX (v:BitVec 8):BitVec 8:=p2 v 4 ^^^ 99#8
theorem wm (a v:BitVec 8) (box back two:Nat→BitVec 8):mC a v box back two (an box a.toNat (kX v),an back (kX v).toNat a):=by
 refine ⟨p2 v 4,?_,rfl⟩
 refine b7 (fun i=>(p2 v i,1+i)) 4 (fun i hi=>?_) ?_
 · unfold pU
   simp only [show 1+i≤4 by omega,if_true]
   rfl
 · unfold pU
   simp only [show¬(1+4≤4) by omega,if_false]
def sB:Nat→Nat→BitVec 8
 | 0=>an (fun _=>0#8) (0#8).toNat (kX 0#8)
 | i+1=>an (sB i) (gJ mF i).toNat (kX (gJ my i))
def tq:Nat→Nat→BitVec 8
 | 0=>an (fun _=>0#8) (kX 0#8).toNat 0#8
 | i+1=>an (tq i) (kX (gJ my i)).toNat (gJ mF i)
def q1:Nat→Nat→BitVec 8
 | 0=>fun _=>0#8
 | i+1=>an (q1 i) i (lU (BitVec.ofNat 8 i) 2#8)
theorem Ah:∀i,i < 255→lU (gJ mF i) 3#8=gJ mF (i+1):=by decide +kernel
theorem FR:∀i,i < 255→lU (gJ my i) 246#8=gJ my (i+1):=by decide +kernel
def jC:Nat→BitVec 8:=sB 255
def lT:Nat→BitVec 8:=tq 255
def lb:Nat→BitVec 8:=q1 256
theorem Ax:pT (jC,lT,lb):=by
 refine ⟨_,_,wm _ _ _ _ _,jC,lT,?_,lb,?_,rfl⟩
 · refine b7 (fun i=>(gJ mF i,gJ my i,i,sB i,tq i)) 255 (fun i hi=>?_) ?_
   · unfold pk
     simp only [hi,if_true]
     refine ⟨_,_,wm _ _ _ _ _,_,pI _ _,_,pI _ _,?_⟩
     rw [Ah i hi,FR i hi]
     rfl
   · unfold pk
     simp only [Nat.lt_irrefl,if_false]
     rfl
 · refine b7 (fun i=>(i,q1 i)) 256 (fun i hi=>?_) ?_
   · unfold oO
     simp only [hi,if_true]
     exact ⟨_,pI _ _,rfl⟩
   · unfold oO
     simp only [Nat.lt_irrefl,if_false]
     rfl
end Go.Proofs.YtjclppnbbpnfnaaGreatDoor
namespace Go.Proofs.YtjclppnbbpnfnaaGreatDoor
set_option linter.unusedSimpArgs false
set_option linter.unusedVariables false
set_option linter.unusedSectionVars false
open Go Go.LW
abbrev F8:=Nat→BitVec 8
def jT (s s':F8):Prop:=∀q,q < 16→s q=s' q
theorem jT.symm {s t:F8} (h:jT s t):jT t s:=fun q hq=>(h q hq).symm
theorem jT.trans {s t u:F8} (h:jT s t) (a:jT t u):jT s u:=fun q hq=>(h q hq).trans (a q hq)
def sD (k:F8) (r:Nat) (s:F8) (n:Nat):F8:=fun q=>if q < n then s q ^^^ k (r*16+q) else s q
def nP (k:F8) (r:Nat) (s:F8):F8:=sD k r s 16
theorem y0 (k a b c s:F8) (r:Nat) (d:r < 15):nA k a b c s (r:Int) (nP k r s):=by
 refine ⟨⟨by omega,by omega⟩,nP k r s,?_,rfl⟩
 refine b7 (fun i=>(i,sD k r s i)) 16 (fun i hi=>?_) ?_
 · unfold oM
   simp only [hi,if_true]
   congr 2
   funext q
   simp only [da,sD,Int.toNat_natCast]
   by_cases hq:q=i
   · subst hq;simp
   · rw [if_neg hq]
     by_cases h2:q < i
     · rw [if_pos h2,if_pos (by omega)]
     · rw [if_neg h2,if_neg (by omega)]
 · unfold oM
   simp only [Nat.lt_irrefl,if_false]
   rfl
def mj (two:F8) (i:Nat) (w x y z:BitVec 8):BitVec 8:=
 match i with
 | 0=>(w ^^^ (((w ^^^ x) ^^^ y) ^^^ z)) ^^^ two (w ^^^ x).toNat
 | 1=>(x ^^^ (((w ^^^ x) ^^^ y) ^^^ z)) ^^^ two (x ^^^ y).toNat
 | 2=>(y ^^^ (((w ^^^ x) ^^^ y) ^^^ z)) ^^^ two (y ^^^ z).toNat
 | _=>(z ^^^ (((w ^^^ x) ^^^ y) ^^^ z)) ^^^ two (z ^^^ w).toNat
def ig (two s:F8) (n:Nat):F8:=fun q=>if q < 4*n then mj two (q % 4) (s (4*(q / 4))) (s (4*(q / 4)+1)) (s (4*(q / 4)+2)) (s (4*(q / 4)+3)) else s q
def o_ (two s:F8):F8:=ig two s 4
theorem CQ (k a b two s:F8):qm k a b two s (o_ two s):=by
 refine ⟨o_ two s,?_,rfl⟩
 refine b7 (fun i=>(4*i,ig two s i)) 4 (fun i hi=>?_) ?_
 · unfold nU
   simp only [show 4*i < 16 by omega,if_true]
   refine ⟨by omega,by omega,by omega,by omega,by omega,by omega,?_⟩
   have hs:∀j,ig two s i (4*i+j)=s (4*i+j):=fun j=>if_neg (by omega)
   have f:ig two s i (4*i)=s (4*i):=hs 0
   rw [f,hs 1,hs 2,hs 3]
   congr 2
   funext q
   simp only [da]
   by_cases h3:q=4*i+3
   · subst h3
     rw [if_pos rfl]
     have c:(4*i+3) % 4=3:=by omega
     have d:(4*i+3) / 4=i:=by omega
     simp only [ig,c,d,show 4*i+3 < 4*(i+1) by omega,if_true,mj]
   · rw [if_neg h3]
     by_cases h2:q=4*i+2
     · subst h2
       rw [if_pos rfl]
       have c:(4*i+2) % 4=2:=by omega
       have d:(4*i+2) / 4=i:=by omega
       simp only [ig,c,d,show 4*i+2 < 4*(i+1) by omega,if_true,mj]
     · rw [if_neg h2]
       by_cases h1:q=4*i+1
       · subst h1
         rw [if_pos rfl]
         have c:(4*i+1) % 4=1:=by omega
         have d:(4*i+1) / 4=i:=by omega
         simp only [ig,c,d,show 4*i+1 < 4*(i+1) by omega,if_true,mj]
       · rw [if_neg h1]
         by_cases e:q=4*i
         · subst e
           rw [if_pos rfl]
           have c:(4*i) % 4=0:=by omega
           have d:(4*i) / 4=i:=by omega
           simp only [ig,c,d,show 4*i < 4*(i+1) by omega,if_true,mj]
         · rw [if_neg e]
           unfold ig
           by_cases hq:q < 4*i
           · rw [if_pos hq,if_pos (by omega)]
           · rw [if_neg hq,if_neg (by omega)]
 · unfold nU
   simp only [show¬(4*4 < 16) by omega,if_false]
   rfl
def mG (box s:F8) (n:Nat):F8:=fun q=>if q < n then box (s ((q+4*(q % 4)) % 16)).toNat else 0#8
def ng (box s:F8):F8:=mG box s 16
theorem DX (box s:F8):Iter (mw box s) (0,fun _=>0#8) (ng box s):=by
 have a:(fun _=>0#8:F8)=mG box s 0:=by funext q;simp [mG]
 rw [a]
 refine b7 (fun i=>(i,mG box s i)) 16 (fun i hi=>?_) ?_
 · unfold mw
   simp only [hi,if_true]
   congr 2
   funext q
   simp only [da,mG]
   by_cases hq:q=i
   · subst hq;simp
   · rw [if_neg hq]
     by_cases h2:q < i
     · rw [if_pos h2,if_pos (by omega)]
     · rw [if_neg h2,if_neg (by omega)]
 · unfold mw
   simp only [Nat.lt_irrefl,if_false]
   rfl
def kQ (k box two s:F8):Nat→F8
 | 0=>nP k 0 s
 | i+1=>nP k (i+1) (if i+1 < 14 then o_ two (ng box (kQ k box two s i)) else ng box (kQ k box two s i))
def jr (k box two s:F8):F8:=kQ k box two s 14
theorem As (k box back two s:F8):qg k box back two s (jr k box two s):=by
 refine ⟨_,y0 k box back two s 0 (by omega),jr k box two s,?_,rfl⟩
 refine b7 (fun i=>(1+i,kQ k box two s i)) 14 (fun i hi=>?_) ?_
 · unfold oG
   simp only [show 1+i≤14 by omega,if_true]
   refine ⟨_,DX _ _,if i+1 < 14 then o_ two (ng box (kQ k box two s i)) else ng box (kQ k box two s i),?_,_,y0 _ _ _ _ _ (1+i) (by omega),?_⟩
   · rw [Nat.add_comm 1 i]
     by_cases h:i+1 < 14
     · rw [if_pos h,if_pos h];exact ⟨_,CQ _ _ _ _ _,rfl⟩
     · rw [if_neg h,if_neg h]
   · rw [Nat.add_comm 1 i];rw [show 1+(i+1)=i+1+1 by omega];rfl
 · unfold oG
   simp only [show¬(1+14≤14) by omega,if_false]
   rfl
end Go.Proofs.YtjclppnbbpnfnaaGreatDoor
namespace Go.Proofs.YtjclppnbbpnfnaaGreatDoor
set_option linter.unusedSimpArgs false
set_option linter.unusedVariables false
set_option linter.unusedSectionVars false
open Go Go.LW
def lW (m g:F8) (t:Nat):Nat→F8
 | 0=>m
 | k+1=>an (lW m g t k) (t*4+k) ((lW m g t k ((t - 8)*4+k)) ^^^ g k)
def gW (box:F8) (a:BitVec 8) (t:Nat) (m:F8):F8:=
 if t % 8=0 then lit [box ((fun q=>m ((t - 1)*4+q)) 1).toNat ^^^ a,box ((fun q=>m ((t - 1)*4+q)) 2).toNat,box ((fun q=>m ((t - 1)*4+q)) 3).toNat,box ((fun q=>m ((t - 1)*4+q)) 0).toNat]
 else if t % 8=4 then lit [box ((fun q=>m ((t - 1)*4+q)) 0).toNat,box ((fun q=>m ((t - 1)*4+q)) 1).toNat,box ((fun q=>m ((t - 1)*4+q)) 2).toNat,box ((fun q=>m ((t - 1)*4+q)) 3).toNat]
 else fun q=>m ((t - 1)*4+q)
def mf (a:BitVec 8) (t:Nat):BitVec 8:=if t % 8=0 then lU a 2#8 else a
def dw (box:F8) (key:List af):Nat→BitVec 8×F8
 | 0=>(1#8,fun _=>0#8)
 | t+1=>if t < 8 then ((dw box key t).1,bh (dw box key t).2 (t*4) (min (aT key (4*t) key.length).length 4) (lit (aT key (4*t) key.length)))
   else (mf (dw box key t).1 t,lW (dw box key t).2 (gW box (dw box key t).1 t (dw box key t).2) t 4)
def kO (m a:F8) (i:Nat):F8:=fun q=>if q < 4*i then m q else a q
def nJ (box:F8) (key:List af) (a:F8):F8:=kO (dw box key 60).2 a 60
theorem zc (a box back two:F8) {key:List af} (hk:key.length=32):pn a box back two key (nJ box key a):=by
 refine ⟨(dw box key 60).2,?_,nJ box key a,?_,rfl⟩
 · refine b7 (fun t=>((dw box key t).1,t,(dw box key t).2)) 60 (fun t e=>?_) ?_
   · unfold pB
     simp only [e,if_true]
     by_cases c:t < 8
     · rw [if_pos c]
       refine ⟨⟨by omega,Nat.le_refl _⟩,?_⟩
       simp only [dw,c,if_true]
     · rw [if_neg c]
       refine ⟨mf (dw box key t).1 t,gW box (dw box key t).1 t (dw box key t).2,?_,lW (dw box key t).2 (gW box (dw box key t).1 t (dw box key t).2) t 4,?_,?_⟩
       · by_cases b:t % 8=0
         · rw [if_pos b]
           exact ⟨_,pI _ _,by simp only [mf,b,if_true],by simp only [gW,b,if_true]⟩
         · rw [if_neg b]
           by_cases d:t % 8=4
           · rw [if_pos d];exact ⟨by simp only [mf,b,if_false],by unfold gW;rw [if_neg b,if_pos d]⟩
           · rw [if_neg d];exact ⟨by simp only [mf,b,if_false],by unfold gW;rw [if_neg b,if_neg d]⟩
       · refine b7 (fun k=>(k,lW (dw box key t).2 (gW box (dw box key t).1 t (dw box key t).2) t k)) 4 (fun k hk=>?_) ?_
         · unfold pE
           simp only [hk,if_true]
           rfl
         · unfold pE
           simp only [Nat.lt_irrefl,if_false]
       · simp only [dw,c,if_false]
   · unfold pB
     simp only [Nat.lt_irrefl,if_false]
 · have f:kO (dw box key 60).2 a 0=a:=by funext q;simp [kO]
   rw [show (0,a)=(0,kO (dw box key 60).2 a 0) by rw [f]]
   unfold nJ
   generalize (dw box key 60).2=m
   refine b7 (fun i=>(i,kO m a i)) 60 (fun i hi=>?_) ?_
   · unfold o9
     simp only [hi,if_true]
     refine ⟨⟨by omega,by omega,by omega⟩,?_⟩
     congr 2
     funext q
     have g:i / 4*16+4*(i % 4)=4*i:=by omega
     have j:min 4 (16 - 4*(i % 4))=4:=by omega
     rw [g,j]
     unfold bh kO
     by_cases h:4*i≤q∧q < 4*i+4
     · rw [if_pos h,if_pos (by omega),qb _ (by omega)]
       congr 1;omega
     · rw [if_neg h]
       by_cases h2:q < 4*i
       · rw [if_pos h2,if_pos (by omega)]
       · rw [if_neg h2,if_neg (by omega)]
   · unfold o9
     simp only [Nat.lt_irrefl,if_false]
def tW (key:List af):F8:=nJ jC key (fun _=>0#8)
theorem CY {key:List af} (hk:key.length=32):kl key (.inr (tW key,jC,lT,lb,0)):=by
 unfold kl
 rw [if_neg (by omega)]
 exact ⟨_,_,_,Ax,_,zc _ _ _ _ hk,rfl⟩
def gk (s:F8) (n:BitVec 64):Nat→BitVec 64×BitVec 64×F8
 | 0=>(n,0#64,s)
 | i+1=>((gk s n i).1 >>> 8,((((gk s n i).2.2 (15 - i)).setWidth 64+((gk s n i).1 &&& 255#64))+(gk s n i).2.1) >>> 8,
    an (gk s n i).2.2 (15 - i) (((((gk s n i).2.2 (15 - i)).setWidth 64+((gk s n i).1 &&& 255#64))+(gk s n i).2.1).setWidth 8))
def rJ (s:F8) (n:BitVec 64):F8:=(gk s n 16).2.2
theorem DG (s:F8) (n:BitVec 64):pA s n (rJ s n):=by
 refine ⟨_,?_,rfl⟩
 refine b7 (fun i=>((gk s n i).1,(gk s n i).2.1,(15:Int) - i,(gk s n i).2.2)) 16 (fun i hi=>?_) ?_
 · unfold n4
   have a:((15:Int) - i).toNat=15 - i:=by omega
   dsimp only
   rw [if_pos (show (0:Int)≤15 - (i:Int) by omega),a]
   refine ⟨⟨by omega,by omega⟩,⟨by omega,by omega⟩,⟨by omega,by omega⟩,?_⟩
   congr 4
   omega
 · unfold n4
   simp only [show¬((0:Int)≤15 - ((16:Nat):Int)) by omega,if_false]
   rfl
def ie (out:List af) (a:Nat) (x:F8):Nat→List af
 | 0=>out
 | t+1=>(ie out a x t).set (a+t) (lit (ie out a x t) (a+t) ^^^ x t)
theorem rA (out:List af) (a:Nat) (x:F8):∀t,(ie out a x t).length=out.length
 | 0=>rfl
 | t+1=>by unfold ie;rw [List.length_set];exact rA out a x t
def e3 (k box two first:F8) (text:List af):Nat→List af×F8
 | 0=>(text,first)
 | i+1=>(ie (e3 k box two first text i).1 (16*i) (jr k box two (e3 k box two first text i).2) (min 16 (text.length - 16*i)),rJ (e3 k box two first text i).2 1#64)
def jB (k box two first:F8) (text:List af):List af:=(e3 k box two first text ((text.length+15) / 16)).1
theorem tM (k box back two first:F8) {text:List af} (hl:text.length≤140737488355328):l4 k box back two first text (jB k box two first text):=by
 refine ⟨by omega,_,?_,rfl⟩
 simp only [List.nil_append]
 refine b7 (fun i=>((e3 k box two first text i).1,16*i,(e3 k box two first text i).2)) ((text.length+15) / 16) (fun i hi=>?_) ?_
 · unfold pG
   simp only [List.nil_append]
   rw [if_pos (by omega)]
   refine ⟨_,As _ _ _ _ _,by omega,ie (e3 k box two first text i).1 (16*i) (jr k box two (e3 k box two first text i).2) (min 16 (text.length - 16*i)),?_,_,DG _ _,by omega,rfl⟩
   refine b7 (fun t=>(ie (e3 k box two first text i).1 (16*i) (jr k box two (e3 k box two first text i).2) t,t)) (min 16 (text.length - 16*i)) (fun t a=>?_) ?_
   · unfold qj
     simp only [List.nil_append]
     rw [if_pos (by omega)]
     exact ⟨by omega,by omega,by omega,rfl⟩
   · unfold qj
     simp only [List.nil_append]
     rw [if_neg (by omega)]
     trivial
 · unfold pG
   simp only [List.nil_append]
   rw [if_neg (by omega)]
   rfl
end Go.Proofs.YtjclppnbbpnfnaaGreatDoor
namespace Go.Proofs.YtjclppnbbpnfnaaGreatDoor
set_option linter.unusedSimpArgs false
set_option linter.unusedVariables false
set_option linter.unusedSectionVars false
open Go Go.LW
def cE (first:F8):Nat→F8
 | 0=>first
 | i+1=>rJ (cE first i) 1#64
theorem xc (k box two first:F8) (text:List af):∀i,(e3 k box two first text i).2=cE first i
 | 0=>rfl
 | i+1=>by unfold e3 cE;rw [xc k box two first text i]
theorem vx {X:List af} {i q:Nat} {v:af} (h:i < X.length):lit (X.set i v) q=if q=i then v else lit X q:=by
 unfold lit
 rw [List.getD_eq_getElem?_getD,List.getD_eq_getElem?_getD]
 by_cases hq:q=i
 · subst hq;rw [if_pos rfl,List.getElem?_set_self h];rfl
 · rw [if_neg hq,List.getElem?_set_ne (Ne.symm hq)]
theorem tp {out:List af} {a:Nat} {x:F8}:∀t,a+t≤out.length→∀q,lit (ie out a x t) q=if a≤q∧q < a+t then lit out q ^^^ x (q - a) else lit out q
 | 0,_,q=>by rw [if_neg (by omega)];rfl
 | t+1,h,q=>by
   unfold ie
   rw [vx (by rw [rA];omega),tp t (by omega),tp t (by omega)]
   by_cases hq:q=a+t
   · subst hq
     rw [if_pos rfl,if_neg (by omega),if_pos (by omega),Nat.add_sub_cancel_left]
   · rw [if_neg hq]
     by_cases h2:a≤q∧q < a+t
     · rw [if_pos h2,if_pos (by omega)]
     · rw [if_neg h2,if_neg (by omega)]
theorem sH (k box two first:F8) (text:List af):∀i,(e3 k box two first text i).1.length=text.length
 | 0=>rfl
 | i+1=>by unfold e3;rw [rA,sH k box two first text i]
theorem vD (k box two first:F8) (text:List af):∀i,16*i < text.length+16→∀q,q < text.length→lit (e3 k box two first text i).1 q=if q < 16*i then lit text q ^^^ jr k box two (cE first (q / 16)) (q % 16) else lit text q
 | 0,_,q,_=>rfl
 | i+1,h,q,hq=>by
   unfold e3
   rw [tp _ (by rw [sH];omega),xc,vD k box two first text i (by omega) q hq]
   by_cases h1:q < 16*i
   · rw [if_neg (by omega),if_pos h1,if_pos (by omega)]
   · by_cases h2:q < 16*(i+1)
     · rw [if_pos (by omega),if_neg h1,if_pos h2,show q / 16=i by omega,show q - 16*i=q % 16 by omega]
     · rw [if_neg (by omega),if_neg h1,if_neg h2]
theorem iW (k box two first:F8) (text:List af):(jB k box two first text).length=text.length:=sH _ _ _ _ _ _
theorem vL (k box two first:F8) (text:List af) {q:Nat} (hq:q < text.length):lit (jB k box two first text) q=lit text q ^^^ jr k box two (cE first (q / 16)) (q % 16):=by
 unfold jB
 rw [vD k box two first text _ (by omega) q hq,if_pos (by omega)]
theorem Ga {X Y:List af} (hl:X.length=Y.length) (h:∀q,q < X.length→lit X q=lit Y q):X=Y:=by
 rw [← om X,← om Y,← hl]
 exact List.map_congr_left fun q hq=>h q (List.mem_range.1 hq)
theorem Bc (k box two first:F8) (text:List af):jB k box two first (jB k box two first text)=text:=
 Ga (by rw [iW,iW]) fun q hq=>by
   rw [iW,iW] at hq
   rw [vL _ _ _ _ _ (by rw [iW];exact hq),vL _ _ _ _ _ hq,BitVec.xor_assoc,BitVec.xor_self,BitVec.xor_zero]
end Go.Proofs.YtjclppnbbpnfnaaGreatDoor
namespace Go.Proofs.YtjclppnbbpnfnaaGreatDoor
set_option linter.unusedSimpArgs false
set_option linter.unusedVariables false
set_option linter.unusedSectionVars false
open Go Go.LW
theorem Fo (a b:List af) (ha:a.length≤1000000) (hb:b.length≤1000000):kC [a,b] (a ++b):=by
 refine ⟨a.length+b.length,?_,by omega,a ++b,?_,rfl⟩
 · refine .more (s':=(a.length,1)) ?_ (.more (s':=(a.length+b.length,2)) ?_ (.done ?_))
   · unfold jt;dsimp only
     rw [if_pos (by simp)]
     exact ⟨by simp,by show 0+a.length < _;omega,by omega,by show Sum.inl (a.length,1)=Sum.inl (0+a.length,0+1);rw [Nat.zero_add]⟩
   · unfold jt;dsimp only
     rw [if_pos (by simp)]
     exact ⟨by simp,by show a.length+b.length < _;omega,by omega,rfl⟩
   · unfold jt;dsimp only
     rw [if_neg (by simp)]
 · refine .more (s':=(a,1)) ?_ (.more (s':=(a ++b,2)) ?_ (.done ?_))
   · unfold jy;dsimp only
     rw [if_pos (by simp)]
     exact ⟨by simp,by show 0+a.length≤_;omega,by omega,rfl⟩
   · unfold jy;dsimp only
     rw [if_pos (by simp)]
     exact ⟨by simp,by show a.length+b.length≤_;omega,by omega,rfl⟩
   · unfold jy;dsimp only
     rw [if_neg (by simp)]
def mW (a b:List af):Nat→af
 | 0=>0#8
 | i+1=>mW a b i ||| (lit a i ^^^ lit b i)
theorem yE (a b:List af):∀n,mW a b n=0#8↔∀q,q < n→lit a q=lit b q
 | 0=>⟨fun _ _ h=>absurd h (Nat.not_lt_zero _),fun _=>rfl⟩
 | n+1=>by
   have c:∀x y z:af,x ||| (y ^^^ z)=0#8↔x=0#8∧y=z:=fun x y z=>by
     rw [BitVec.or_eq_zero_iff,BitVec.xor_eq_zero_iff]
   show mW a b n ||| (lit a n ^^^ lit b n)=0#8↔_
   rw [c,yE a b n]
   refine ⟨fun ⟨h1,h2⟩ q hq=>?_,fun h=>⟨fun q hq=>h q (by omega),h n (by omega)⟩⟩
   by_cases h:q=n
   · rw [h];exact h2
   · exact h1 q (by omega)
theorem zr (a b:List af) (ha:a.length≤1000000):jP a b (decide (a=b)):=by
 unfold jP
 by_cases hl:a.length=b.length
 · rw [if_neg (by omega)]
   refine ⟨mW a b a.length,b7 (fun i=>(mW a b i,i)) a.length (fun i hi=>?_) ?_,?_⟩
   · unfold oo;dsimp only
     rw [if_pos hi]
     exact ⟨hi,by omega,by omega,rfl⟩
   · unfold oo;dsimp only
     rw [if_neg (by omega)]
   · refine decide_eq_decide.2 ((yE a b a.length).trans ⟨fun h=>uA hl h,fun h q _=>by rw [h]⟩).symm
 · rw [if_pos hl]
   exact decide_eq_false fun h=>hl (by rw [h])
def qB:List af:=dl 10 (lit ([108#8,101#8,116#8,104#8,101#8,32#8,115#8,101#8,97#8,108#8]:List af))
def h5 (key:Nat→af):List af:=kZ (dl 32 (fT (List.replicate 32 0#8) (dl 32 key))) qB 80
theorem mN (key:Nat→af):(h5 key).length=80:=vO _ _ _
theorem uk (key:Nat→af):jj (List.replicate 32 0#8) (dl 32 key) qB 80 (h5 key,0):=
 uZ (n:=80) (by rw [List.length_replicate];decide) (by rw [ea];decide) (by unfold qB;rw [ea];decide) (by omega)
def qX (key:Nat→af):Nat→af:=tW (aT (h5 key) 0 32)
def gE (key:Nat→af):List af:=aT (h5 key) 32 64
def rY (key:Nat→af):Nat→af:=lit (aT (h5 key) 64 80)
theorem vn (key:Nat→af):(gE key).length=32:=by unfold gE;rw [fv (by rw [mN];omega)]
theorem vT (key:Nat→af):h4 key (.inr (.inr (qX key,jC,lT,lb,gE key,rY key,0))):=by
 have hl:=mN key
 refine ⟨0,h5 key,⟨h5 key,0,uk key,rfl,rfl⟩,?_⟩
 rw [if_neg (by omega)]
 refine ⟨by omega,.inr ⟨qX key,jC,lT,lb,0,CY (by rw [fv (by omega)]),?_⟩⟩
 rw [if_neg (by omega)]
 refine ⟨by omega,by omega,by omega,?_⟩
 unfold rY gE
 rw [hl]
def len8 (n i:Nat):af:=((BitVec.ofNat 64 n) >>> (56 - 8*i)).setWidth 8
def hB (n:Nat):List af:=(List.range 8).map (len8 n)
def ir (n t:Nat):List af:=(List.range 8).map fun i=>if i < t then len8 n i else 0#8
theorem oc (n t:Nat):(ir n t).length=8:=by unfold ir;rw [List.length_map,List.length_range]
theorem uL (n t:Nat) {q:Nat} (h:q < 8):lit (ir n t) q=if q < t then len8 n q else 0#8:=sx (n:=8) (fun i=>if i < t then len8 n i else 0#8) q h
theorem DY (n:Nat) {t:Nat} (h:t < 8):(ir n t).set t (len8 n t)=ir n (t+1):=by
 refine uA (by rw [List.length_set,oc,oc]) fun q hq=>?_
 rw [List.length_set,oc] at hq
 rw [vx (by rw [oc];exact h),uL _ _ hq,uL _ _ hq]
 by_cases e:q=t
 · subst e;rw [if_pos rfl,if_pos (by omega)]
 · rw [if_neg e]
   by_cases h2:q < t
   · rw [if_pos h2,if_pos (by omega)]
   · rw [if_neg h2,if_neg (by omega)]
def i' (a data c:List af):List af:=dl 32 (fT a (data ++(c ++hB data.length)))
theorem vW (a data c:List af):(i' a data c).length=32:=ea _ _
theorem tS {a data c:List af} (hk:a.length≤1000000) (b:data.length≤1000000) (hc:c.length≤1000000):jS a data c (i' a data c):=by
 refine ⟨ir data.length 8,?_,?_⟩
 · refine b7 (fun i=>(ir data.length i,i)) 8 (fun i hi=>?_) ?_
   · unfold qc;dsimp only
     rw [if_pos (by rw [List.length_replicate];exact hi)]
     refine ⟨by omega,by omega,by omega,by rw [List.length_replicate];exact hi,by omega,?_⟩
     rw [show (56 - ((8*i:Nat):Int)).toNat=56 - 8*i by omega,← DY _ hi]
     rfl
   · unfold qc;dsimp only
     rw [if_neg (by rw [List.length_replicate];omega)]
 · have e:ir data.length 8=hB data.length:=by
     unfold ir hB
     refine List.map_congr_left fun i hi=>?_
     rw [if_pos (List.mem_range.1 hi)]
   rw [e]
   have hl:(hB data.length).length=8:=by unfold hB;rw [List.length_map,List.length_range]
   have hm:=lV (X:=a) (P:= [data,c,hB data.length]) (by omega) (by simp) (by simp only [List.flatten_cons,List.flatten_nil,List.append_nil,List.length_append];omega)
   simp only [List.flatten_cons,List.flatten_nil,List.append_nil] at hm
   exact ⟨_,hm,rfl⟩
def fR (key:Nat→af) (text:List af):List af:=jB (qX key) jC lb (rY key) text
theorem vK (key:Nat→af) (text:List af):(fR key text).length=text.length:=iW _ _ _ _ _
theorem Aw (key:Nat→af) (text:List af):fR key (fR key text)=text:=Bc _ _ _ _ _
def e4 (key:Nat→af) (data text:List af):List af:=fR key text ++i' (gE key) data (fR key text)
theorem qn (key:Nat→af) (data text:List af):(e4 key data text).length=text.length+32:=by
 unfold e4;rw [List.length_append,vK,vW]
theorem AX {key:Nat→af} {data text:List af} (a:text.length≤512) (b:data.length≤65535):nu key data text (e4 key data text,0):=by
 unfold nu
 rw [if_neg (by omega),if_neg (by omega)]
 refine .inr (.inr ⟨_,_,_,_,_,_,_,vT key,?_⟩)
 rw [if_neg (by omega)]
 refine ⟨_,tM _ _ _ _ _ (by omega),_,tS (by rw [vn];omega) (by omega) (by rw [iW];omega),_,Fo _ _ (by rw [iW];omega) (by rw [vW];omega),rfl⟩
def fc (key:Nat→af) (data s:List af):List af×Nat:=
 if aT s (s.length - 32) s.length=i' (gE key) data (aT s 0 (s.length - 32)) then (fR key (aT s 0 (s.length - 32)),0) else ([],50)
theorem DC {key:Nat→af} {data s:List af} (a:32≤s.length) (h1:s.length≤544) (b:data.length≤65535):jb key data s (fc key data s):=by
 have e:(((s.length:Nat):Int) - 32).toNat=s.length - 32:=by omega
 have c:(aT s 0 (s.length - 32)).length=s.length - 32:=by rw [fv (by omega)];omega
 refine ⟨by omega,?_⟩
 rw [if_neg (by omega),if_neg (by omega),if_neg (by omega),e]
 refine .inr (.inr ⟨_,_,_,_,_,_,_,vT key,?_⟩)
 rw [if_neg (by omega)]
 refine ⟨by omega,by omega,by omega,by omega,_,tS (by rw [vn];omega) (by omega) (by omega),_,zr _ _ (by rw [fv (Nat.le_refl _)];omega),?_⟩
 unfold fc
 by_cases h:aT s (s.length - 32) s.length=i' (gE key) data (aT s 0 (s.length - 32))
 · rw [if_pos (decide_eq_true h),if_pos h]
   exact ⟨by omega,by omega,_,tM _ _ _ _ _ (by omega),rfl⟩
 · rw [if_neg (by simpa using h),if_neg h]
theorem uJ {key:Nat→af} {data text:List af}:fc key data (e4 key data text)=(text,0):=by
 have hl:=qn key data text
 have c:=vK key text
 have a:aT (e4 key data text) 0 ((e4 key data text).length - 32)=fR key text:=by
   rw [hl,x7,show text.length+32 - 32=(fR key text).length by omega]
   unfold e4
   exact List.take_left' rfl
 have b:aT (e4 key data text) ((e4 key data text).length - 32) (e4 key data text).length=i' (gE key) data (fR key text):=by
   unfold aT
   rw [List.take_length,hl,show text.length+32 - 32=(fR key text).length by omega]
   unfold e4
   exact List.drop_left' rfl
 unfold fc
 rw [a,b,if_pos rfl,Aw]
end Go.Proofs.YtjclppnbbpnfnaaGreatDoor
namespace Go.Proofs.YtjclppnbbpnfnaaGreatDoor
set_option linter.unusedSimpArgs false
set_option linter.unusedVariables false
set_option linter.unusedSectionVars false
open Go Go.LW
def bl (b:Nat→BitVec 8):Nat→Nat
 | 0=>0
 | n+1=>bl b n+(b n).toNat*256 ^ n
theorem mx (b:Nat→BitVec 8):∀n,bl b n < 256 ^ n
 | 0=>by simp [bl]
 | n+1=>by
   have h:=mx b n
   have hb:=(b n).isLt
   show bl b n+(b n).toNat*256 ^ n < 256 ^ (n+1)
   rw [Nat.pow_succ]
   have:(b n).toNat*256 ^ n≤255*256 ^ n:=Nat.mul_le_mul_right _ (by omega)
   omega
theorem qz (b:Nat→BitVec 8) (i:Nat):∀n,bl b (i+n)=bl b i+256 ^ i*bl (fun q=>b (i+q)) n
 | 0=>by simp [bl]
 | n+1=>by
   show bl b (i+n)+(b (i+n)).toNat*256 ^ (i+n)=bl b i+256 ^ i*(bl (fun q=>b (i+q)) n+(b (i+n)).toNat*256 ^ n)
   rw [qz b i n,Nat.pow_add,Nat.mul_add,← Nat.add_assoc,Nat.mul_left_comm]
theorem tA (b:Nat→BitVec 8) (i n:Nat):bl b (i+n) / 256 ^ i=bl (fun q=>b (i+q)) n:=by
 rw [qz,Nat.add_mul_div_left _ _ (Nat.pow_pos (by decide)),Nat.div_eq_of_lt (mx b i),Nat.zero_add]
theorem xM (b:Nat→BitVec 8) (i n:Nat):bl b (i+n) % 256 ^ i=bl b i:=by
 rw [qz,Nat.add_mul_mod_self_left,Nat.mod_eq_of_lt (mx b i)]
def wd (b:Nat→BitVec 8) (i:Nat):Nat→BitVec 64
 | 0=>0#64
 | j+1=>(wd b i j <<< 8) ||| ((b (i+7 - j)).setWidth 64)
def wN (b:Nat→BitVec 8) (i:Nat):Nat→Nat
 | 0=>0
 | j+1=>wN b i j*256+(b (i+7 - j)).toNat
theorem uV (b:Nat→BitVec 8) (i:Nat):∀j,wN b i j < 256 ^ j
 | 0=>by simp [wN]
 | j+1=>by
   have h:=uV b i j
   have hb:=(b (i+7 - j)).isLt
   show wN b i j*256+_ < 256 ^ (j+1)
   rw [Nat.pow_succ];omega
theorem uc (b:Nat→BitVec 8) (i:Nat):∀j,j≤8→(wd b i j).toNat=wN b i j
 | 0,_=>rfl
 | j+1,h=>by
   have a:=uc b i j (by omega)
   have hl:=uV b i j
   have hp:256 ^ j≤256 ^ 7:=Nat.pow_le_pow_right (by decide) (by omega)
   have c:wN b i j < 2 ^ 56:=Nat.lt_of_lt_of_le hl (Nat.le_trans hp (by decide))
   have hb:=(b (i+7 - j)).isLt
   show ((wd b i j <<< 8) ||| ((b (i+7 - j)).setWidth 64)).toNat=wN b i j*256+(b (i+7 - j)).toNat
   rw [BitVec.toNat_or,BitVec.toNat_shiftLeft,BitVec.toNat_setWidth,a,Nat.shiftLeft_eq,Nat.mod_eq_of_lt (by omega),Nat.mod_eq_of_lt (by omega)]
   have:=Nat.two_pow_add_eq_or_of_lt (i:=8) (b:=(b (i+7 - j)).toNat) (by omega) (wN b i j)
   rw [show wN b i j*2 ^ 8=2 ^ 8*wN b i j by omega,← this]
theorem lx (b:Nat→BitVec 8) {i:Nat} (hi:i≤24):iT b (i:Int) (wd b i 8):=by
 refine ⟨_,?_,rfl⟩
 refine b7 (fun j=>(wd b i j,7 - (j:Int))) 8 (fun j a=>?_) ?_
 · unfold o0;dsimp only
   rw [if_pos (by omega)]
   refine ⟨by omega,by omega,by omega,?_⟩
   rw [show ((i:Int)+(7 - (j:Int))).toNat=i+7 - j by omega,show (7:Int) - (j:Int) - 1=7 - ((j+1:Nat):Int) by omega]
   rfl
 · unfold o0;dsimp only
   rw [if_neg (by omega)]
theorem lI (b:Nat→BitVec 8) {i:Nat} (hi:i≤24):(wd b i 8).toNat=bl b 32 / 256 ^ i % 2 ^ 64:=by
 rw [uc b i 8 (Nat.le_refl _)]
 have h:=tA b i (32 - i)
 rw [show i+(32 - i)=32 by omega] at h
 rw [h]
 have h2:=xM (fun q=>b (i+q)) 8 (24 - i)
 rw [show 8+(24 - i)=32 - i by omega] at h2
 rw [show (2:Nat) ^ 64=256 ^ 8 by decide,h2]
 simp only [wN,bl,show i+7 - 0=i+7 by omega,show i+7 - 1=i+6 by omega,show i+7 - 2=i+5 by omega,show i+7 - 3=i+4 by omega,show i+7 - 4=i+3 by omega,show i+7 - 5=i+2 by omega,show i+7 - 6=i+1 by omega,show i+7 - 7=i+0 by omega]
 omega
abbrev F5:=Nat→BitVec 64
def val (l:F5):Nat:=(l 0).toNat+(l 1).toNat*2 ^ 51+(l 2).toNat*2 ^ 102+(l 3).toNat*2 ^ 153+(l 4).toNat*2 ^ 204
def cy (B:Nat) (l:F5):Prop:=∀i,i < 5→(l i).toNat < B
theorem iz (x:BitVec 64):(x &&& 2251799813685247#64).toNat=x.toNat % 2 ^ 51:=by
 rw [BitVec.toNat_and,show (2251799813685247#64).toNat=2 ^ 51 - 1 by decide,Nat.and_two_pow_sub_one_eq_mod]
theorem eJ (x:BitVec 64) (s:Nat):(x >>> s).toNat=x.toNat / 2 ^ s:=by rw [BitVec.toNat_ushiftRight,Nat.shiftRight_eq_div_pow]
def e9 (b:Nat→BitVec 8):F5:=lit [wd b 0 8 &&& 2251799813685247#64,(wd b 6 8 >>> 3) &&& 2251799813685247#64,(wd b 12 8 >>> 6) &&& 2251799813685247#64,(wd b 19 8 >>> 1) &&& 2251799813685247#64,(wd b 24 8 >>> 12) &&& 2251799813685247#64]
theorem Ey (b:Nat→BitVec 8):oA b (e9 b):=
 ⟨_,lx b (i:=0) (by omega),_,lx b (i:=6) (by omega),_,lx b (i:=12) (by omega),_,lx b (i:=19) (by omega),_,lx b (i:=24) (by omega),rfl⟩
theorem y2 (b:Nat→BitVec 8):cy (2 ^ 51) (e9 b):=fun i hi=>by
 rcases (by omega:i=0∨i=1∨i=2∨i=3∨i=4) with rfl | rfl | rfl | rfl | rfl <;> (show (_ &&& 2251799813685247#64:BitVec 64).toNat < _;rw [iz];omega)
theorem Cr (b:Nat→BitVec 8):val (e9 b)=bl b 32 % 2 ^ 255:=by
 unfold val
 have a:(e9 b 0).toNat=bl b 32 % 2 ^ 51:=by
   show (wd b 0 8 &&& 2251799813685247#64).toNat=_
   rw [iz,lI b (by omega)];omega
 have h1:(e9 b 1).toNat=bl b 32 / 2 ^ 51 % 2 ^ 51:=by
   show ((wd b 6 8 >>> 3) &&& 2251799813685247#64).toNat=_
   rw [iz,eJ,lI b (by omega)];omega
 have h2:(e9 b 2).toNat=bl b 32 / 2 ^ 102 % 2 ^ 51:=by
   show ((wd b 12 8 >>> 6) &&& 2251799813685247#64).toNat=_
   rw [iz,eJ,lI b (by omega)];omega
 have h3:(e9 b 3).toNat=bl b 32 / 2 ^ 153 % 2 ^ 51:=by
   show ((wd b 19 8 >>> 1) &&& 2251799813685247#64).toNat=_
   rw [iz,eJ,lI b (by omega)];omega
 have c:(e9 b 4).toNat=bl b 32 / 2 ^ 204 % 2 ^ 51:=by
   show ((wd b 24 8 >>> 12) &&& 2251799813685247#64).toNat=_
   rw [iz,eJ,lI b (by omega)];omega
 rw [a,h1,h2,h3,c]
 omega
end Go.Proofs.YtjclppnbbpnfnaaGreatDoor
namespace Go.Proofs.YtjclppnbbpnfnaaGreatDoor
set_option linter.unusedSimpArgs false
set_option linter.unusedVariables false
set_option linter.unusedSectionVars false
open Go Go.LW
def aQ:Nat:=2 ^ 255 - 19
def bX (l:F5):Nat→BitVec 64
 | 0=>0#64
 | i+1=>(l i+bX l i) >>> 51
def dP (l:F5) (i:Nat):F5:=fun q=>if q < i then (l q+bX l q) &&& 2251799813685247#64 else l q
def b3 (l:F5):F5:=an (dP l 5) 0 (dP l 5 0+19#64*bX l 5)
theorem A9 (l:F5) (i:Nat):an (an (dP l i) i (dP l i i+bX l i)) i ((an (dP l i) i (dP l i i+bX l i)) i &&& 2251799813685247#64)=dP l (i+1):=by
 funext q
 rw [da,fz,da]
 unfold dP
 by_cases h:q=i
 · subst h;rw [if_pos rfl,if_neg (by omega),if_pos (by omega)]
 · rw [if_neg h,if_neg h]
   by_cases h2:q < i
   · rw [if_pos h2,if_pos (by omega)]
   · rw [if_neg h2,if_neg (by omega)]
theorem ml (l:F5):iC l (b3 l):=by
 refine ⟨bX l 5,dP l 5,?_,rfl⟩
 refine b7 (fun i=>(bX l i,i,dP l i)) 5 (fun i hi=>?_) ?_
 · unfold pH;dsimp only
   rw [if_pos hi,A9,fz]
   have e:dP l i i=l i:=if_neg (by omega)
   rw [e]
   rfl
 · unfold pH;dsimp only
   rw [if_neg (by omega)]
theorem ga (l:F5) (h:cy (2 ^ 63) l):∀i,i < 5→(bX l i).toNat < 2 ^ 13∧(bX l (i+1)).toNat=((l i).toNat+(bX l i).toNat) / 2 ^ 51
 | 0,hi=>by
   refine ⟨by show (0#64:BitVec 64).toNat < _;decide,?_⟩
   show ((l 0+bX l 0) >>> 51).toNat=_
   have:=h 0 hi
   rw [eJ,BitVec.toNat_add,Nat.mod_eq_of_lt (by show _+(0#64:BitVec 64).toNat < _;rw [BitVec.toNat_ofNat];omega)]
 | i+1,hi=>by
   obtain ⟨h1,h2⟩:=ga l h i (by omega)
   have ha:=h i (by omega)
   have hb:=h (i+1) hi
   have hc:(bX l (i+1)).toNat < 2 ^ 13:=by rw [h2];omega
   refine ⟨hc,?_⟩
   show ((l (i+1)+bX l (i+1)) >>> 51).toNat=_
   rw [eJ,BitVec.toNat_add,Nat.mod_eq_of_lt (by omega)]
theorem gj (l:F5) (h:cy (2 ^ 63) l) {q:Nat} (hq:q < 5):(dP l 5 q).toNat=((l q).toNat+(bX l q).toNat) % 2 ^ 51:=by
 have h1:=(ga l h q hq).1
 have h2:=h q hq
 unfold dP
 rw [if_pos hq,iz,BitVec.toNat_add,Nat.mod_eq_of_lt (show _+_ < 2 ^ 64 by omega)]
theorem lB (l:F5) (h:cy (2 ^ 63) l):∃c,(bX l 5).toNat=c∧c≤4096∧val (b3 l)+c*2 ^ 255=val l+19*c∧(b3 l 0).toNat=(l 0).toNat % 2 ^ 51+19*c∧(∀q,0 < q→q < 5→(b3 l q).toNat < 2 ^ 51):=by
 have a:(bX l 0).toNat=0:=rfl
 have c1:(bX l 1).toNat=((l 0).toNat+(bX l 0).toNat) / 2 ^ 51:=(ga l h 0 (by omega)).2
 have c2:(bX l 2).toNat=((l 1).toNat+(bX l 1).toNat) / 2 ^ 51:=(ga l h 1 (by omega)).2
 have f:(bX l 3).toNat=((l 2).toNat+(bX l 2).toNat) / 2 ^ 51:=(ga l h 2 (by omega)).2
 have g:(bX l 4).toNat=((l 3).toNat+(bX l 3).toNat) / 2 ^ 51:=(ga l h 3 (by omega)).2
 have i:(bX l 5).toNat=((l 4).toNat+(bX l 4).toNat) / 2 ^ 51:=(ga l h 4 (by omega)).2
 have m0:=gj l h (q:=0) (by omega)
 have m1:=gj l h (q:=1) (by omega)
 have m2:=gj l h (q:=2) (by omega)
 have m3:=gj l h (q:=3) (by omega)
 have m4:=gj l h (q:=4) (by omega)
 have j:=h 0 (by omega)
 have k:=h 1 (by omega)
 have m:=h 2 (by omega)
 have n:=h 3 (by omega)
 have o:=h 4 (by omega)
 have d4:=(ga l h 4 (by omega)).1
 have hc:(bX l 5).toNat≤4096:=by omega
 have b:(b3 l 0).toNat=(dP l 5 0).toNat+19*(bX l 5).toNat:=by
   show (an (dP l 5) 0 (dP l 5 0+19#64*bX l 5) 0).toNat=_
   rw [fz,BitVec.toNat_add,BitVec.toNat_mul,show (19#64:BitVec 64).toNat=19 by decide,Nat.mod_eq_of_lt (show 19*(bX l 5).toNat < 2 ^ 64 by omega),Nat.mod_eq_of_lt (by omega)]
 have eq:∀q,0 < q→b3 l q=dP l 5 q:=fun q hq=>eR _ _ _ _ (by omega)
 refine ⟨_,rfl,hc,?_,?_,fun q d e=>?_⟩
 · unfold val
   rw [b,eq 1 (by omega),eq 2 (by omega),eq 3 (by omega),eq 4 (by omega),m0,m1,m2,m3,m4]
   rw [a] at m0 c1
   generalize (bX l 1).toNat=p at*
   generalize (bX l 2).toNat=r at*
   generalize (bX l 3).toNat=s at*
   generalize (bX l 4).toNat=t at*
   generalize (bX l 5).toNat=u at*
   omega
 · rw [b,m0,a,Nat.add_zero]
 · rw [eq q d,gj l h e];omega
theorem mg (l:F5) (h:cy (2 ^ 63) l):val (b3 l) % aQ=val l % aQ:=by
 obtain ⟨c,_,_,hv,_⟩:=lB l h
 have:val l=val (b3 l)+aQ*c:=by unfold aQ;omega
 rw [this,Nat.add_mul_mod_self_left]
theorem yQ (l:F5) (h:cy (2 ^ 63) l):cy (2 ^ 52) (b3 l):=fun q hq=>by
 obtain ⟨c,_,hc,_,a,b⟩:=lB l h
 by_cases e:q=0
 · subst e;rw [a];omega
 · have:=b q (by omega) hq;omega
theorem Fq (l:F5) (h:cy (2 ^ 63) l):val (b3 (b3 l)) < 2 ^ 255+19∧(b3 (b3 l) 0).toNat < 2 ^ 51+19∧(∀q,0 < q→q < 5→(b3 (b3 l) q).toNat < 2 ^ 51):=by
 obtain ⟨c,b,hc,hv,e,a⟩:=lB l h
 have hb:cy (2 ^ 63) (b3 l):=fun q hq=>Nat.lt_of_lt_of_le (yQ l h q hq) (by decide)
 obtain ⟨d,f,g,hw,g0,gr⟩:=lB (b3 l) hb
 have i:=a 1 (by omega) (by omega)
 have j:=a 2 (by omega) (by omega)
 have k:=a 3 (by omega) (by omega)
 have m:=a 4 (by omega) (by omega)
 have s1:=gr 1 (by omega) (by omega)
 have s2:=gr 2 (by omega) (by omega)
 have s3:=gr 3 (by omega) (by omega)
 have s4:=gr 4 (by omega) (by omega)
 have n:val (b3 l) < 2 ^ 255+2 ^ 52:=by unfold val;omega
 have o:d≤1:=by omega
 have p:(b3 (b3 l) 0).toNat < 2 ^ 51+19:=by
   rw [g0]
   have:=Nat.mod_lt (b3 l 0).toNat (show 0 < 2 ^ 51 by decide)
   by_cases r:d=0
   · omega
   · omega
 refine ⟨?_,?_,gr⟩
 · unfold val;omega
 · rw [g0]
   have:=Nat.mod_lt (b3 l 0).toNat (show 0 < 2 ^ 51 by decide)
   omega
end Go.Proofs.YtjclppnbbpnfnaaGreatDoor
namespace Go.Proofs.YtjclppnbbpnfnaaGreatDoor
set_option linter.unusedSimpArgs false
set_option linter.unusedVariables false
set_option linter.unusedSectionVars false
open Go Go.LW
def qC (x:F5):Nat→BitVec 64
 | 0=>19#64
 | i+1=>(x i+qC x i) >>> 51
def gS (x:F5):F5:=an x 0 (x 0+19#64*qC x 5)
def mP (y:F5) (t:Nat):F5:=fun q=>if q < t then (y q+bX y q) &&& 2251799813685247#64 else if q=t then y q+bX y q else y q
def kD (l:F5):F5:=dP (gS (b3 (b3 l))) 5
theorem BQ (y:F5):mP y 0=y:=by
 funext q
 unfold mP
 rw [if_neg (by omega)]
 by_cases h:q=0
 · subst h;rw [if_pos rfl];show y 0+0#64=y 0;rw [BitVec.add_zero]
 · rw [if_neg h]
theorem ES (y:F5) (t:Nat):an (an (mP y t) (t+1) (mP y t (t+1)+(mP y t t >>> 51))) t ((an (mP y t) (t+1) (mP y t (t+1)+(mP y t t >>> 51))) t &&& 2251799813685247#64)=mP y (t+1):=by
 have a:mP y t t=y t+bX y t:=by unfold mP;rw [if_neg (by omega),if_pos rfl]
 have b:mP y t (t+1)=y (t+1):=by unfold mP;rw [if_neg (by omega),if_neg (by omega)]
 funext q
 rw [da]
 by_cases h:q=t
 · subst h
   rw [if_pos rfl,eR _ _ _ _ (by omega),a]
   unfold mP;rw [if_pos (by omega)]
 · rw [if_neg h,da]
   by_cases h1:q=t+1
   · subst h1
     rw [if_pos rfl,a,b]
     unfold mP;rw [if_neg (by omega),if_pos rfl];rfl
   · rw [if_neg h1]
     unfold mP
     by_cases h2:q < t
     · rw [if_pos h2,if_pos (by omega)]
     · rw [if_neg h2,if_neg h,if_neg (by omega),if_neg h1]
theorem En (y:F5) {q:Nat} (hq:q < 5):an (mP y 4) 4 (mP y 4 4 &&& 2251799813685247#64) q=dP y 5 q:=by
 rw [da]
 unfold mP dP
 by_cases h:q=4
 · subst h;rw [if_pos rfl,if_neg (by omega),if_pos rfl,if_pos (by omega)]
 · rw [if_neg h,if_pos (by omega),if_pos hq]
theorem k_ (x:F5) (h:cy (2 ^ 52) x):∀i,i < 5→(qC x i).toNat≤19∧(qC x (i+1)).toNat=((x i).toNat+(qC x i).toNat) / 2 ^ 51
 | 0,hi=>by
   have:=h 0 hi
   refine ⟨by show (19#64:BitVec 64).toNat≤_;decide,?_⟩
   show ((x 0+qC x 0) >>> 51).toNat=_
   rw [eJ,BitVec.toNat_add,Nat.mod_eq_of_lt (by show _+(19#64:BitVec 64).toNat < _;rw [BitVec.toNat_ofNat];omega)]
 | i+1,hi=>by
   obtain ⟨h1,h2⟩:=k_ x h i (by omega)
   have ha:=h i (by omega)
   have hb:=h (i+1) hi
   have hc:(qC x (i+1)).toNat≤19:=by rw [h2];omega
   refine ⟨hc,?_⟩
   show ((x (i+1)+qC x (i+1)) >>> 51).toNat=_
   rw [eJ,BitVec.toNat_add,Nat.mod_eq_of_lt (by omega)]
theorem DR (l:F5) (h:cy (2 ^ 63) l):val (kD l)=val l % aQ∧cy (2 ^ 51) (kD l):=by
 obtain ⟨hx,m,a⟩:=Fq l h
 have n:cy (2 ^ 63) (b3 l):=fun q hq=>Nat.lt_of_lt_of_le (yQ l h q hq) (by decide)
 have c:val (b3 (b3 l)) % aQ=val l % aQ:=by rw [mg _ n,mg _ h]
 unfold kD
 generalize b3 (b3 l)=x at hx m a c ⊢
 have hb:cy (2 ^ 52) x:=fun q hq=>by
   by_cases e:q=0
   · subst e;omega
   · have:=a q (by omega) hq;omega
 have g:(qC x 0).toNat=19:=rfl
 have i:(qC x 1).toNat=((x 0).toNat+(qC x 0).toNat) / 2 ^ 51:=(k_ x hb 0 (by omega)).2
 have o:(qC x 2).toNat=((x 1).toNat+(qC x 1).toNat) / 2 ^ 51:=(k_ x hb 1 (by omega)).2
 have p:(qC x 3).toNat=((x 2).toNat+(qC x 2).toNat) / 2 ^ 51:=(k_ x hb 2 (by omega)).2
 have r:(qC x 4).toNat=((x 3).toNat+(qC x 3).toNat) / 2 ^ 51:=(k_ x hb 3 (by omega)).2
 have s:(qC x 5).toNat=((x 4).toNat+(qC x 4).toNat) / 2 ^ 51:=(k_ x hb 4 (by omega)).2
 have D:=a 1 (by omega) (by omega)
 have E:=a 2 (by omega) (by omega)
 have F:=a 3 (by omega) (by omega)
 have G:=a 4 (by omega) (by omega)
 have j:(qC x 5).toNat=(val x+19) / 2 ^ 255:=by
   unfold val
   rw [g] at i
   generalize (qC x 1).toNat=t at*
   generalize (qC x 2).toNat=u at*
   generalize (qC x 3).toNat=w at*
   generalize (qC x 4).toNat=z at*
   omega
 have A:(qC x 5).toNat≤1:=by omega
 have t0:(gS x 0).toNat=(x 0).toNat+19*(qC x 5).toNat:=by
   show (an x 0 (x 0+19#64*qC x 5) 0).toNat=_
   rw [fz,BitVec.toNat_add,BitVec.toNat_mul,show (19#64:BitVec 64).toNat=19 by decide,Nat.mod_eq_of_lt (show 19*(qC x 5).toNat < 2 ^ 64 by omega),Nat.mod_eq_of_lt (by omega)]
 have b:∀q,0 < q→gS x q=x q:=fun q hq=>eR _ _ _ _ (by omega)
 have hy:cy (2 ^ 63) (gS x):=fun q hq=>by
   by_cases e:q=0
   · subst e;omega
   · rw [b q (by omega)];have:=a q (by omega) hq;omega
 have d:val (gS x)=val x+19*(qC x 5).toNat:=by
   unfold val;rw [t0,b 1 (by omega),b 2 (by omega),b 3 (by omega),b 4 (by omega)];omega
 generalize gS x=y at hy d ⊢
 have f:(bX y 0).toNat=0:=rfl
 have c1:(bX y 1).toNat=((y 0).toNat+(bX y 0).toNat) / 2 ^ 51:=(ga y hy 0 (by omega)).2
 have c2:(bX y 2).toNat=((y 1).toNat+(bX y 1).toNat) / 2 ^ 51:=(ga y hy 1 (by omega)).2
 have B:(bX y 3).toNat=((y 2).toNat+(bX y 2).toNat) / 2 ^ 51:=(ga y hy 2 (by omega)).2
 have C:(bX y 4).toNat=((y 3).toNat+(bX y 3).toNat) / 2 ^ 51:=(ga y hy 3 (by omega)).2
 have m0:=gj y hy (q:=0) (by omega)
 have m1:=gj y hy (q:=1) (by omega)
 have m2:=gj y hy (q:=2) (by omega)
 have m3:=gj y hy (q:=3) (by omega)
 have m4:=gj y hy (q:=4) (by omega)
 have k:val (dP y 5)=val y % 2 ^ 255:=by
   unfold val
   rw [m0,m1,m2,m3,m4]
   rw [f] at c1 m0
   rw [f]
   generalize (bX y 1).toNat=t at*
   generalize (bX y 2).toNat=u at*
   generalize (bX y 3).toNat=w at*
   generalize (bX y 4).toNat=z at*
   omega
 refine ⟨?_,fun q hq=>by rw [gj y hy hq];omega⟩
 rw [k,← c,d]
 rw [show aQ=57896044618658097711785492504343953926634992332820282019728792003956564819949 by decide]
 generalize (qC x 5).toNat=Q at j A ⊢
 generalize val x=v at hx j ⊢
 clear c d k m0 m1 m2 m3 m4 f c1 c2 B C g i o p r s
 rcases (by omega:Q=0∨Q=1) with rfl | rfl
 · have hv:v < 57896044618658097711785492504343953926634992332820282019728792003956564819949:=by omega
   rw [Nat.mul_zero,Nat.add_zero,Nat.mod_eq_of_lt hv,Nat.mod_eq_of_lt (by omega)]
 · have hv:57896044618658097711785492504343953926634992332820282019728792003956564819949≤v:=by omega
   rw [Nat.mod_eq_sub_mod hv,Nat.mod_eq_of_lt (show v - 57896044618658097711785492504343953926634992332820282019728792003956564819949 < 57896044618658097711785492504343953926634992332820282019728792003956564819949 by omega),Nat.mod_eq_sub_mod (show 2 ^ 255≤v+19*1 by omega),Nat.mod_eq_of_lt (by omega)]
   omega
end Go.Proofs.YtjclppnbbpnfnaaGreatDoor
namespace Go.Proofs.YtjclppnbbpnfnaaGreatDoor
set_option linter.unusedSimpArgs false
set_option linter.unusedVariables false
set_option linter.unusedSectionVars false
open Go Go.LW
def p5 (z:F5) (t:Nat):BitVec 8:=(((z (t / 51)) >>> (t % 51)) &&& 1#64).setWidth 8
def ic (z:F5):Nat→(Nat→BitVec 8)
 | 0=>fun _=>0#8
 | t+1=>an (ic z t) (t / 8) (ic z t (t / 8) ||| (p5 z t <<< (t % 8)))
theorem B8 (z:F5) (h:cy (2 ^ 51) z) {i s:Nat} (hi:i < 5) (hs:s < 51):(val z).testBit (51*i+s)=(z i).toNat.testBit s:=by
 have a:=h 0 (by omega)
 have h1:=h 1 (by omega)
 have h2:=h 2 (by omega)
 have h3:=h 3 (by omega)
 have b:=h 4 (by omega)
 have e:val z / 2 ^ (51*i) % 2 ^ 51=(z i).toNat:=by
   unfold val
   rcases (by omega:i=0∨i=1∨i=2∨i=3∨i=4) with rfl | rfl | rfl | rfl | rfl <;> omega
 rw [← e,Nat.testBit_mod_two_pow,Nat.testBit_div_two_pow]
 simp only [hs,decide_true,Bool.true_and]
 congr 1;omega
theorem CS (z:F5) (h:cy (2 ^ 51) z) {t:Nat} (a:t < 255) (k:Nat):(p5 z t).getLsbD k=(decide (k=0) && (val z).testBit t):=by
 have hl:=B8 z h (i:=t / 51) (s:=t % 51) (by omega) (Nat.mod_lt _ (by omega))
 rw [show 51*(t / 51)+t % 51=t by omega] at hl
 unfold p5
 rw [BitVec.getLsbD_setWidth,BitVec.getLsbD_and,BitVec.getLsbD_ushiftRight,BitVec.getLsbD_one,hl]
 by_cases hk:k=0
 · subst hk
   simp [BitVec.getLsbD]
 · simp [hk]
theorem yI (z:F5) (h:cy (2 ^ 51) z):∀t,t≤255→∀q j,(ic z t q).getLsbD j=(decide (j < 8) && decide (8*q+j < t) && (val z).testBit (8*q+j))
 | 0,_,q,j=>by simp [ic]
 | t+1,g,q,j=>by
   have e:=yI z h t (by omega)
   show (an (ic z t) (t / 8) (ic z t (t / 8) ||| (p5 z t <<< (t % 8))) q).getLsbD j=_
   rw [da]
   by_cases hq:q=t / 8
   · rw [if_pos hq,BitVec.getLsbD_or,BitVec.getLsbD_shiftLeft,e,CS z h (by omega),← hq]
     by_cases b:j < 8
     · by_cases he:8*q+j=t
       · have c:j - t % 8=0:=by omega
         have d:¬j < t % 8:=by omega
         have f:¬8*q+j < t:=by omega
         have a:8*q+j < t+1:=by omega
         simp only [b,c,d,f,a,he,decide_true,decide_false,Bool.true_and,Bool.and_true,Bool.false_and,Bool.and_false,Bool.false_or,Bool.not_false]
         simp [Nat.lt_irrefl]
       · by_cases hl:8*q+j < t
         · have d:j < t % 8:=by omega
           have a:8*q+j < t+1:=by omega
           simp only [b,d,hl,a,decide_true,Bool.true_and,Bool.not_true,Bool.false_and,Bool.and_false,Bool.or_false]
         · have c:¬j - t % 8=0:=by omega
           have a:¬8*q+j < t+1:=by omega
           simp only [b,c,hl,a,decide_true,decide_false,Bool.true_and,Bool.false_and,Bool.and_false,Bool.or_false]
     · simp [b]
   · rw [if_neg hq,e]
     by_cases b:j < 8
     · by_cases hl:8*q+j < t
       · have a:8*q+j < t+1:=by omega
         simp only [hl,a]
       · have a:¬8*q+j < t+1:=by omega
         simp only [hl,a]
     · simp [b]
theorem Du (z:F5) (h:cy (2 ^ 51) z) (hv:val z < 2 ^ 255) (q:Nat):(ic z 255 q).toNat=val z / 256 ^ q % 256:=by
 apply Nat.eq_of_testBit_eq
 intro j
 have hg:=yI z h 255 (Nat.le_refl _) q j
 rw [BitVec.getLsbD] at hg
 rw [hg,show (256:Nat) ^ q=2 ^ (8*q) by rw [Nat.pow_mul],show (256:Nat)=2 ^ 8 by decide,Nat.testBit_mod_two_pow,Nat.testBit_div_two_pow]
 by_cases a:j < 8
 · by_cases hl:8*q+j < 255
   · simp only [a,hl,decide_true,Bool.true_and];congr 1;omega
   · have:(val z).testBit (j+8*q)=false:=Nat.testBit_lt_two_pow (Nat.lt_of_lt_of_le hv (Nat.pow_le_pow_right (by decide) (by omega)))
     simp only [a,hl,decide_true,decide_false,Bool.true_and,Bool.false_and,Bool.and_false]
     first | exact this.symm | (rw [Nat.add_comm] at this;exact this.symm)
 · simp only [a,decide_false,Bool.false_and]
theorem yw (b:Nat→BitVec 8) {N:Nat} (h:∀q,(b q).toNat=N / 256 ^ q % 256):∀n,bl b n=N % 256 ^ n
 | 0=>by simp [bl,Nat.mod_one]
 | n+1=>by
   show bl b n+(b n).toNat*256 ^ n=_
   rw [yw b h n,h n,Nat.pow_succ,Nat.mod_mul,Nat.mul_comm]
def nq (l:F5):Nat→BitVec 8:=ic (kD l) 255
theorem EB (l:F5) (h:cy (2 ^ 63) l):bl (nq l) 32=val l % aQ:=by
 obtain ⟨hv,hb⟩:=DR l h
 have a:val l % aQ < aQ:=Nat.mod_lt _ (by decide)
 have hp:aQ < 2 ^ 255:=by decide
 unfold nq
 rw [yw _ (Du (kD l) hb (by rw [hv];omega)) 32,hv,Nat.mod_eq_of_lt (Nat.lt_of_lt_of_le a (by decide))]
theorem Eh (l:F5):oC l (nq l):=by
 refine ⟨_,ml l,_,ml _,qC (b3 (b3 l)) 5,?_,mP (gS (b3 (b3 l))) 4,?_,nq l,?_,rfl⟩
 · refine b7 (fun i=>(qC (b3 (b3 l)) (i+1),i+1)) 4 (fun i hi=>?_) ?_
   · unfold pq;dsimp only
     rw [if_pos (by omega)];rfl
   · unfold pq;dsimp only
     rw [if_neg (by omega)]
 · have e:=BQ (gS (b3 (b3 l)))
   have:=b7 (step:=lL) (x:=mP (gS (b3 (b3 l))) 4) (fun i=>(i,mP (gS (b3 (b3 l))) i)) 4 (fun i hi=>by
     unfold lL;dsimp only
     rw [if_pos hi,ES]) (by
     unfold lL;dsimp only
     rw [if_neg (by omega)])
   rw [e] at this
   exact this
 · refine b7 (fun i=>(i,ic (kD l) i)) 255 (fun i hi=>?_) ?_
   · unfold o7;dsimp only
     rw [if_pos hi,En _ (show i / 51 < 5 by omega)]
     rfl
   · unfold o7;dsimp only
     rw [if_neg (by omega)]
     rfl
end Go.Proofs.YtjclppnbbpnfnaaGreatDoor
namespace Go.Proofs.YtjclppnbbpnfnaaGreatDoor
set_option linter.unusedSimpArgs false
set_option linter.unusedVariables false
set_option linter.unusedSectionVars false
open Go Go.LW
def lq (x y:BitVec 64):BitVec 64:=
 ((((x >>> 32)*(y >>> 32))+((((x >>> 32)*(y &&& (4294967295#64)))+(((x &&& (4294967295#64))*(y &&& (4294967295#64))) >>> 32)) >>> 32))+((((((x >>> 32)*(y &&& (4294967295#64)))+(((x &&& (4294967295#64))*(y &&& (4294967295#64))) >>> 32)) &&& (4294967295#64))+((x &&& (4294967295#64))*(y >>> 32))) >>> 32))
theorem FC (x y:BitVec 64):o6 x y (lq x y,x*y):=rfl
theorem n' (x:BitVec 64):(x &&& 4294967295#64).toNat=x.toNat % 2 ^ 32:=by
 rw [BitVec.toNat_and,show (4294967295#64).toNat=2 ^ 32 - 1 by decide,Nat.and_two_pow_sub_one_eq_mod]
theorem nc {x y:BitVec 64} (h:x.toNat*y.toNat < 2 ^ 64):(x*y).toNat=x.toNat*y.toNat:=by rw [BitVec.toNat_mul,Nat.mod_eq_of_lt h]
theorem iy {x y:BitVec 64} (h:x.toNat+y.toNat < 2 ^ 64):(x+y).toNat=x.toNat+y.toNat:=by rw [BitVec.toNat_add,Nat.mod_eq_of_lt h]
theorem ph {a b:Nat} (ha:a < 2 ^ 32) (hb:b < 2 ^ 32):a*b≤(2 ^ 32 - 1)*(2 ^ 32 - 1):=Nat.mul_le_mul (by omega) (by omega)
theorem Bd (x y:BitVec 64):(lq x y).toNat*2 ^ 64+(x*y).toNat=x.toNat*y.toNat:=by
 have hx:=x.isLt
 have hy:=y.isLt
 have a:(x >>> 32).toNat=x.toNat / 2 ^ 32:=eJ x 32
 have b:(y >>> 32).toNat=y.toNat / 2 ^ 32:=eJ y 32
 have a0:=n' x
 have c:=n' y
 have i:x.toNat=x.toNat / 2 ^ 32*2 ^ 32+x.toNat % 2 ^ 32:=by omega
 have j:y.toNat=y.toNat / 2 ^ 32*2 ^ 32+y.toNat % 2 ^ 32:=by omega
 have f:x.toNat / 2 ^ 32 < 2 ^ 32:=by omega
 have dN:y.toNat / 2 ^ 32 < 2 ^ 32:=by omega
 have g:x.toNat % 2 ^ 32 < 2 ^ 32:=by omega
 have h:y.toNat % 2 ^ 32 < 2 ^ 32:=by omega
 have k:x.toNat*y.toNat=(x.toNat / 2 ^ 32*(y.toNat / 2 ^ 32))*2 ^ 64+(x.toNat / 2 ^ 32*(y.toNat % 2 ^ 32))*2 ^ 32+(x.toNat % 2 ^ 32*(y.toNat / 2 ^ 32))*2 ^ 32+x.toNat % 2 ^ 32*(y.toNat % 2 ^ 32):=by
   conv=>lhs;rw [i,j]
   generalize x.toNat / 2 ^ 32=p
   generalize x.toNat % 2 ^ 32=q
   generalize y.toNat / 2 ^ 32=r
   generalize y.toNat % 2 ^ 32=s
   rw [Nat.add_mul,Nat.mul_add,Nat.mul_add,show p*2 ^ 32*(r*2 ^ 32)=p*r*2 ^ 64 by rw [Nat.mul_mul_mul_comm],show p*2 ^ 32*s=p*s*2 ^ 32 by rw [Nat.mul_right_comm],show q*(r*2 ^ 32)=q*r*2 ^ 32 by rw [Nat.mul_assoc]]
   omega
 have v:=ph f dN
 have w:=ph f h
 have z:=ph g dN
 have A:=ph g h
 have w0:((x &&& (4294967295#64))*(y &&& (4294967295#64))).toNat=x.toNat % 2 ^ 32*(y.toNat % 2 ^ 32):=by rw [nc (by rw [a0,c];omega),a0,c]
 have l:((x >>> 32)*(y &&& (4294967295#64))).toNat=x.toNat / 2 ^ 32*(y.toNat % 2 ^ 32):=by rw [nc (by rw [a,c];omega),a,c]
 have m:((x &&& (4294967295#64))*(y >>> 32)).toNat=x.toNat % 2 ^ 32*(y.toNat / 2 ^ 32):=by rw [nc (by rw [a0,b];omega),a0,b]
 have n:((x >>> 32)*(y >>> 32)).toNat=x.toNat / 2 ^ 32*(y.toNat / 2 ^ 32):=by rw [nc (by rw [a,b];omega),a,b]
 have o:(x*y).toNat=(x.toNat*y.toNat) % 2 ^ 64:=BitVec.toNat_mul _ _
 rw [o]
 unfold lq
 generalize (x >>> 32)*(y >>> 32)=v11 at*
 generalize (x >>> 32)*(y &&& (4294967295#64))=v10 at*
 generalize (x &&& (4294967295#64))*(y >>> 32)=d at*
 generalize (x &&& (4294967295#64))*(y &&& (4294967295#64))=e at*
 have t1:(v10+(e >>> 32)).toNat=v10.toNat+e.toNat / 2 ^ 32:=by rw [iy (by rw [eJ];omega),eJ]
 generalize v10+(e >>> 32)=t at*
 have t2:((t &&& 4294967295#64)+d).toNat=t.toNat % 2 ^ 32+d.toNat:=by rw [iy (by rw [n'];omega),n']
 generalize (t &&& 4294967295#64)+d=u at*
 have t3:(v11+(t >>> 32)).toNat=v11.toNat+t.toNat / 2 ^ 32:=by rw [iy (by rw [eJ];omega),eJ]
 generalize v11+(t >>> 32)=s at*
 have t4:(s+(u >>> 32)).toNat=s.toNat+u.toNat / 2 ^ 32:=by rw [iy (by rw [eJ];omega),eJ]
 rw [t4,k]
 rw [← n,← l,← m,← w0]
 omega
end Go.Proofs.YtjclppnbbpnfnaaGreatDoor
namespace Go.Proofs.YtjclppnbbpnfnaaGreatDoor
set_option linter.unusedSimpArgs false
set_option linter.unusedVariables false
set_option linter.unusedSectionVars false
open Go Go.LW
set_option maxRecDepth 10000
def yq (xlo l:BitVec 64):BitVec 64:=BitVec.ofNat 64 ((xlo.toNat+l.toNat+(0#64).toNat) / 2 ^ 64)
def qd (xhi xlo a b:BitVec 64):BitVec 64:=xhi+lq a b+yq xlo (a*b)
def oB (xlo a b:BitVec 64):BitVec 64:=xlo+a*b+0#64
theorem zH (xhi xlo a b:BitVec 64):n9 xhi xlo a b (qd xhi xlo a b,oB xlo a b):=by
 refine ⟨_,_,FC a b,?_,rfl⟩
 have h1:=xlo.isLt
 have h2:=(a*b).isLt
 rw [BitVec.toNat_ofNat,show (0#64:BitVec 64).toNat=0 by decide]
 omega
theorem zS (M A B C D P q r:Nat) (hm:C*M+D=P) (e:M*q+r=B+D):(A+C+q)*M+r=A*M+B+P:=by
 rw [Nat.add_mul,Nat.add_mul,← hm]
 rw [Nat.mul_comm] at e
 generalize A*M=a
 generalize C*M=c
 generalize q*M=d at*
 omega
theorem BY {xhi xlo a b:BitVec 64} (h:xhi.toNat*2 ^ 64+xlo.toNat+a.toNat*b.toNat < 2 ^ 128):
   (qd xhi xlo a b).toNat*2 ^ 64+(oB xlo a b).toNat=xhi.toNat*2 ^ 64+xlo.toNat+a.toNat*b.toNat:=by
 have hm:=Bd a b
 have h1:=xlo.isLt
 have h2:=(a*b).isLt
 unfold qd oB yq
 generalize a*b=l at*
 generalize lq a b=c at*
 have e:(0#64:BitVec 64).toNat=0:=BitVec.toNat_ofNat 0 64
 have i:=c.isLt
 have h3:=xhi.isLt
 have f:(xlo+l+0#64).toNat=(xlo.toNat+l.toNat) % 2 ^ 64:=by rw [BitVec.add_zero,BitVec.toNat_add]
 have d:(BitVec.ofNat 64 ((xlo.toNat+l.toNat+(0#64:BitVec 64).toNat) / 2 ^ 64)).toNat=(xlo.toNat+l.toNat) / 2 ^ 64:=by
   rw [BitVec.toNat_ofNat,e,Nat.add_zero,Nat.mod_eq_of_lt]
   omega
 have g:(xhi+c+BitVec.ofNat 64 ((xlo.toNat+l.toNat+(0#64:BitVec 64).toNat) / 2 ^ 64)).toNat=xhi.toNat+c.toNat+(xlo.toNat+l.toNat) / 2 ^ 64:=by
   have g1:(xhi+c).toNat=xhi.toNat+c.toNat:=iy (by omega)
   rw [iy (by rw [g1,d];omega),g1,d]
 rw [f,g]
 exact zS (2 ^ 64) _ _ _ _ _ _ _ hm (Nat.div_add_mod _ _)
def SV (m:Nat→BitVec 64) (k:Nat):Nat:=(m (k*2)).toNat*2 ^ 64+(m (k*2+1)).toNat
def yv (b:F5) (i j:Nat):BitVec 64:=if 5≤i+j then b j*19#64 else b j
def eH (a b:F5) (i:Nat) (m:Nat→BitVec 64):Nat→(Nat→BitVec 64)
 | 0=>m
 | j+1=>bh (eH a b i m j) (((i+j) % 5)*2) 2 (lit [qd (eH a b i m j (((i+j) % 5)*2+0)) (eH a b i m j (((i+j) % 5)*2+1)) (a i) (yv b i j),oB (eH a b i m j (((i+j) % 5)*2+1)) (a i) (yv b i j)])
def cb (a b:F5):Nat→(Nat→BitVec 64)
 | 0=>fun _=>0#64
 | i+1=>eH a b i (cb a b i) 5
theorem F0 (a b:F5):Iter (mV a b) (0,fun _=>0#64) (cb a b 5):=by
 refine b7 (fun i=>(i,cb a b i)) 5 (fun i hi=>?_) ?_
 · unfold mV;dsimp only
   rw [if_pos hi]
   refine ⟨eH a b i (cb a b i) 5,?_,rfl⟩
   refine b7 (fun j=>(j,eH a b i (cb a b i) j)) 5 (fun j c=>?_) ?_
   · unfold o4;dsimp only
     rw [if_pos c]
     refine ⟨yv b i j,?_,_,_,zH _ _ _ _,rfl⟩
     unfold yv
     by_cases h:5≤i+j
     · rw [if_pos h,if_pos h]
     · rw [if_neg h,if_neg h]
   · unfold o4;dsimp only
     rw [if_neg (by omega)]
 · unfold mV;dsimp only
   rw [if_neg (by omega)]
theorem Ej (m:Nat→BitVec 64) (a:Nat) (h l:BitVec 64) (k:Nat):SV (bh m (a*2) 2 (lit [h,l])) k=if k=a then h.toNat*2 ^ 64+l.toNat else SV m k:=by
 unfold SV
 by_cases hk:k=a
 · subst hk
   rw [if_pos rfl,eh _ _ _ _ _ (by omega),eh _ _ _ _ _ (by omega),Nat.sub_self,show k*2+1 - k*2=1 by omega]
   rfl
 · rw [if_neg hk,c7 _ _ _ _ _ (by omega),c7 _ _ _ _ _ (by omega)]
def yN (b:F5) (i j:Nat):Nat:=if 5≤i+j then (b j).toNat*19 else (b j).toNat
theorem BW {b:F5} (h:cy (2 ^ 52) b) {i j:Nat} (a:j < 5):(yv b i j).toNat=yN b i j∧yN b i j < 19*2 ^ 52:=by
 have hb:=h j a
 unfold yv yN
 by_cases e:5≤i+j
 · rw [if_pos e,if_pos e,BitVec.toNat_mul,show (19#64:BitVec 64).toNat=19 by decide];omega
 · rw [if_neg e,if_neg e];omega
def eL (a b:F5) (i:Nat) (f:Nat→Nat):Nat→(Nat→Nat)
 | 0=>f
 | j+1=>fun k=>if k=(i+j) % 5 then eL a b i f j k+(a i).toNat*yN b i j else eL a b i f j k
def di (a b:F5):Nat→(Nat→Nat)
 | 0=>fun _=>0
 | i+1=>eL a b i (di a b i) 5
theorem tP {a b:F5} (ha:cy (2 ^ 52) a) (hb:cy (2 ^ 52) b) {i:Nat} (hi:i < 5) {m:Nat→BitVec 64} {f:Nat→Nat} (hm:∀k,k < 5→SV m k=f k) (hf:∀k,k < 5→f k≤i*5*(2 ^ 52*(19*2 ^ 52))):
   ∀j,j≤5→∀k,k < 5→SV (eH a b i m j) k=eL a b i f j k∧eL a b i f j k≤(i*5+j)*(2 ^ 52*(19*2 ^ 52))
 | 0,_,k,hk=>⟨hm k hk,by have:=hf k hk;simpa [eL] using this⟩
 | j+1,g,k,hk=>by
   obtain ⟨h1,h2⟩:=tP ha hb hi hm hf j (by omega) k hk
   obtain ⟨c,h⟩:=BW hb (i:=i) (j:=j) (by omega)
   have l:=ha i hi
   have hp:(a i).toNat*yN b i j≤2 ^ 52*(19*2 ^ 52):=Nat.mul_le_mul (by omega) (by omega)
   have n:(i*5+j)*(2 ^ 52*(19*2 ^ 52))≤24*(2 ^ 52*(19*2 ^ 52)):=Nat.mul_le_mul_right _ (by omega)
   show SV (bh (eH a b i m j) (((i+j) % 5)*2) 2 (lit [_,_])) k=(if k=(i+j) % 5 then eL a b i f j k+(a i).toNat*yN b i j else eL a b i f j k)∧(if k=(i+j) % 5 then eL a b i f j k+(a i).toNat*yN b i j else eL a b i f j k)≤_
   rw [Ej]
   have hs:(i*5+(j+1))*(2 ^ 52*(19*2 ^ 52))=(i*5+j)*(2 ^ 52*(19*2 ^ 52))+2 ^ 52*(19*2 ^ 52):=by rw [← Nat.add_assoc,Nat.add_mul,Nat.one_mul]
   by_cases e:k=(i+j) % 5
   · rw [if_pos e,if_pos e,← e,hs]
     have d:(eH a b i m j (k*2)).toNat*2 ^ 64+(eH a b i m j (k*2+1)).toNat=eL a b i f j k:=h1
     have:=BY (xhi:=eH a b i m j (k*2+0)) (xlo:=eH a b i m j (k*2+1)) (a:=a i) (b:=yv b i j) (by
       rw [c];show (eH a b i m j (k*2)).toNat*2 ^ 64+(eH a b i m j (k*2+1)).toNat+_ < _;omega)
     rw [this,c]
     refine ⟨by show (eH a b i m j (k*2)).toNat*2 ^ 64+(eH a b i m j (k*2+1)).toNat+_=_;rw [d],by omega⟩
   · rw [if_neg e,if_neg e,hs]
     exact ⟨h1,Nat.le_trans h2 (Nat.le_add_right _ _)⟩
theorem wh {a b:F5} (ha:cy (2 ^ 52) a) (hb:cy (2 ^ 52) b):∀i,i≤5→∀k,k < 5→SV (cb a b i) k=di a b i k∧di a b i k≤i*5*(2 ^ 52*(19*2 ^ 52))
 | 0,_,k,_=>⟨by show (0#64:BitVec 64).toNat*2 ^ 64+(0#64:BitVec 64).toNat=0;rw [BitVec.toNat_ofNat 0 64],by simp [di]⟩
 | i+1,hi,k,hk=>by
   have c:=wh ha hb i (by omega)
   have:=tP ha hb (i:=i) (by omega) (fun k hk=>(c k hk).1) (fun k hk=>(c k hk).2) 5 (by omega) k hk
   rw [show i*5+5=(i+1)*5 by omega] at this
   exact this
end Go.Proofs.YtjclppnbbpnfnaaGreatDoor
namespace Go.Proofs.YtjclppnbbpnfnaaGreatDoor
set_option linter.unusedSimpArgs false
set_option linter.unusedVariables false
set_option linter.unusedSectionVars false
open Go Go.LW
set_option maxRecDepth 10000
def cC (m:Nat→BitVec 64):Nat→BitVec 64
 | 0=>0#64
 | i+1=>(((m (i*2+0))+(BitVec.ofNat 64 (((m (i*2+1)).toNat+(cC m i).toNat+(0#64).toNat) / 2 ^ 64))) <<< 13) ||| (((m (i*2+1))+(cC m i)+(0#64)) >>> 51)
def eZ (m:Nat→BitVec 64) (i:Nat):F5:=fun q=>if q < i then (((m (q*2+1))+(cC m q)+(0#64)) &&& (2251799813685247#64)) else 0#64
theorem Ao (m:Nat→BitVec 64) (i:Nat):an (eZ m i) i (((m (i*2+1))+(cC m i)+(0#64)) &&& (2251799813685247#64))=eZ m (i+1):=by
 funext q
 rw [da]
 unfold eZ
 by_cases h:q=i
 · subst h;rw [if_pos rfl,if_pos (by omega)]
 · rw [if_neg h]
   by_cases h2:q < i
   · rw [if_pos h2,if_pos (by omega)]
   · rw [if_neg h2,if_neg (by omega)]
def k8 (a b:F5):F5:=an (eZ (cb a b 5) 5) 0 (eZ (cb a b 5) 5 0+19#64*cC (cb a b 5) 5)
def dO (a b:F5):F5:=b3 (k8 a b)
theorem BG (m:Nat→BitVec 64):eZ m 0=fun _=>0#64:=by
 funext q;unfold eZ;rw [if_neg (by omega)]
theorem hV (a b:F5):fZ a b (dO a b):=by
 refine ⟨_,F0 a b,cC (cb a b 5) 5,eZ (cb a b 5) 5,?_,_,ml _,rfl⟩
 have h:=b7 (step:=m_ (cb a b 5)) (x:=(cC (cb a b 5) 5,eZ (cb a b 5) 5)) (fun i=>(cC (cb a b 5) i,i,eZ (cb a b 5) i)) 5 (fun i hi=>by
   unfold m_;dsimp only
   rw [if_pos hi,Ao];rfl) (by
   unfold m_;dsimp only
   rw [if_neg (by omega)])
 rw [BG] at h
 exact h
theorem nt (a:F5):je a (dO a a):=⟨_,hV a a,rfl⟩
theorem E6 {y:Nat} (h:y < 2 ^ 51):y*2 ^ 13 < 2 ^ 64:=by omega
theorem Fh {hi lo c:BitVec 64} (i:hi.toNat*2 ^ 64+lo.toNat+c.toNat < 2 ^ 115):
   (((hi+(BitVec.ofNat 64 ((lo.toNat+c.toNat+(0#64:BitVec 64).toNat) / 2 ^ 64))) <<< 13) ||| ((lo+c+0#64) >>> 51)).toNat=(hi.toNat*2 ^ 64+lo.toNat+c.toNat) / 2 ^ 51∧
   ((lo+c+0#64) &&& 2251799813685247#64).toNat=(hi.toNat*2 ^ 64+lo.toNat+c.toNat) % 2 ^ 51:=by
 have d:(0#64:BitVec 64).toNat=0:=BitVec.toNat_ofNat 0 64
 have h1:=lo.isLt
 have h2:=c.isLt
 have h3:=hi.isLt
 have a:(lo+c+0#64).toNat=(lo.toNat+c.toNat) % 2 ^ 64:=by rw [BitVec.add_zero,BitVec.toNat_add]
 have b:(BitVec.ofNat 64 ((lo.toNat+c.toNat+(0#64:BitVec 64).toNat) / 2 ^ 64)).toNat=(lo.toNat+c.toNat) / 2 ^ 64:=by
   rw [BitVec.toNat_ofNat,d,Nat.add_zero,Nat.mod_eq_of_lt];omega
 have e:(hi+BitVec.ofNat 64 ((lo.toNat+c.toNat+(0#64:BitVec 64).toNat) / 2 ^ 64)).toNat=hi.toNat+(lo.toNat+c.toNat) / 2 ^ 64:=by
   rw [iy (by rw [b];omega),b]
 refine ⟨?_,?_⟩
 · rw [BitVec.toNat_or,BitVec.toNat_shiftLeft,eJ,a,e,Nat.shiftLeft_eq]
   have f:hi.toNat+(lo.toNat+c.toNat) / 2 ^ 64 < 2 ^ 51:=by omega
   have g:(hi.toNat+(lo.toNat+c.toNat) / 2 ^ 64)*2 ^ 13 < 2 ^ 64:=by
     exact E6 f
   rw [Nat.mod_eq_of_lt g]
   have h:(lo.toNat+c.toNat) % 2 ^ 64 / 2 ^ 51 < 2 ^ 13:=by omega
   rw [Nat.mul_comm,← Nat.two_pow_add_eq_or_of_lt h]
   omega
 · rw [iz,a];omega
section sums
variable {a b:F5}
theorem B3:di a b 5 0=(a 0).toNat*(b 0).toNat+(a 1).toNat*((b 4).toNat*19)+(a 2).toNat*((b 3).toNat*19)+(a 3).toNat*((b 2).toNat*19)+(a 4).toNat*((b 1).toNat*19):=by simp [di,eL,yN]
theorem Cw:di a b 5 1=(a 0).toNat*(b 1).toNat+(a 1).toNat*(b 0).toNat+(a 2).toNat*((b 4).toNat*19)+(a 3).toNat*((b 3).toNat*19)+(a 4).toNat*((b 2).toNat*19):=by simp [di,eL,yN]
theorem Bl:di a b 5 2=(a 0).toNat*(b 2).toNat+(a 1).toNat*(b 1).toNat+(a 2).toNat*(b 0).toNat+(a 3).toNat*((b 4).toNat*19)+(a 4).toNat*((b 3).toNat*19):=by simp [di,eL,yN]
theorem EH:di a b 5 3=(a 0).toNat*(b 3).toNat+(a 1).toNat*(b 2).toNat+(a 2).toNat*(b 1).toNat+(a 3).toNat*(b 0).toNat+(a 4).toNat*((b 4).toNat*19):=by simp [di,eL,yN]
theorem vV:di a b 5 4=(a 0).toNat*(b 4).toNat+(a 1).toNat*(b 3).toNat+(a 2).toNat*(b 2).toNat+(a 3).toNat*(b 1).toNat+(a 4).toNat*(b 0).toNat:=by simp [di,eL,yN]
end sums
theorem Gn (a0 d a2 a3 a4 f e c b a X:Nat):(a0+d*X+a2*X^2+a3*X^3+a4*X^4)*(f+e*X+c*X^2+b*X^3+a*X^4)+19*((d*a+a2*b+a3*c+a4*e)+(a2*a+a3*b+a4*c)*X+(a3*a+a4*b)*X^2+a4*a*X^3)=
 (a0*f+d*(a*19)+a2*(b*19)+a3*(c*19)+a4*(e*19))+(a0*e+d*f+a2*(a*19)+a3*(b*19)+a4*(c*19))*X+(a0*c+d*e+a2*f+a3*(a*19)+a4*(b*19))*X^2+(a0*b+d*c+a2*e+a3*f+a4*(a*19))*X^3+(a0*a+d*b+a2*c+a3*e+a4*f)*X^4
  + X^5*((d*a+a2*b+a3*c+a4*e)+(a2*a+a3*b+a4*c)*X+(a3*a+a4*b)*X^2+a4*a*X^3):=by grind
theorem zD (a b:F5):(di a b 5 0+di a b 5 1*2 ^ 51+di a b 5 2*2 ^ 102+di a b 5 3*2 ^ 153+di a b 5 4*2 ^ 204) % aQ=val a*val b % aQ:=by
 have h:=Gn (a 0).toNat (a 1).toNat (a 2).toNat (a 3).toNat (a 4).toNat (b 0).toNat (b 1).toNat (b 2).toNat (b 3).toNat (b 4).toNat (2 ^ 51)
 rw [← B3,← Cw,← Bl,← EH,← vV] at h
 rw [show ((2:Nat) ^ 51) ^ 2=2 ^ 102 by decide +kernel,show ((2:Nat) ^ 51) ^ 3=2 ^ 153 by decide +kernel,show ((2:Nat) ^ 51) ^ 4=2 ^ 204 by decide +kernel,show ((2:Nat) ^ 51) ^ 5=aQ+19 by decide +kernel] at h
 have hv:val a*val b=((a 0).toNat+(a 1).toNat*2 ^ 51+(a 2).toNat*2 ^ 102+(a 3).toNat*2 ^ 153+(a 4).toNat*2 ^ 204)*((b 0).toNat+(b 1).toNat*2 ^ 51+(b 2).toNat*2 ^ 102+(b 3).toNat*2 ^ 153+(b 4).toNat*2 ^ 204):=rfl
 rw [← hv] at h
 generalize val a*val b=v at h ⊢
 generalize ((a 1).toNat*(b 4).toNat+(a 2).toNat*(b 3).toNat+(a 3).toNat*(b 2).toNat+(a 4).toNat*(b 1).toNat+((a 2).toNat*(b 4).toNat+(a 3).toNat*(b 3).toNat+(a 4).toNat*(b 2).toNat)*2 ^ 51+((a 3).toNat*(b 4).toNat+(a 4).toNat*(b 3).toNat)*2 ^ 102+(a 4).toNat*(b 4).toNat*2 ^ 153)=H at h
 rw [Nat.add_mul] at h
 have h2:v=di a b 5 0+di a b 5 1*2 ^ 51+di a b 5 2*2 ^ 102+di a b 5 3*2 ^ 153+di a b 5 4*2 ^ 204+aQ*H:=by omega
 rw [h2,Nat.add_mul_mod_self_left]
def Tt:Nat:=2 ^ 51+2 ^ 17
theorem u4:Tt≤2 ^ 52:=by decide
theorem cy.mono {M N:Nat} {l:F5} (h:cy M l) (a:M≤N):cy N l:=fun q hq=>Nat.lt_of_lt_of_le (h q hq) a
theorem qN (l:F5) (h:cy (2 ^ 63) l):cy Tt (b3 l):=fun q hq=>by
 obtain ⟨c,_,hc,_,a,b⟩:=lB l h
 show _ < 2 ^ 51+2 ^ 17
 by_cases e:q=0
 · subst e;rw [a];omega
 · have:=b q (by omega) hq;omega
theorem D7 {a b:F5} (ha:cy (2 ^ 52) a) (hb:cy (2 ^ 52) b):val (dO a b) % aQ=val a*val b % aQ∧cy Tt (dO a b):=by
 have f:=fun k hk=>wh ha hb 5 (Nat.le_refl _) k hk
 have hs:=zD a b
 have m:di a b 5 4≤5*(2 ^ 52*2 ^ 52):=by
   rw [vV]
   have q:∀i j,i < 5→j < 5→(a i).toNat*(b j).toNat≤2 ^ 52*2 ^ 52:=fun i j hi r=>Nat.mul_le_mul (by have:=ha i hi;omega) (by have:=hb j r;omega)
   have x:=q 0 4 (by omega) (by omega)
   have y:=q 1 3 (by omega) (by omega)
   have A:=q 2 2 (by omega) (by omega)
   have B:=q 3 1 (by omega) (by omega)
   have C:=q 4 0 (by omega) (by omega)
   omega
 generalize di a b 5=S at f hs m
 have key:∀i,i < 5→(cC (cb a b 5) (i+1)).toNat=(S i+(cC (cb a b 5) i).toNat) / 2 ^ 51∧(eZ (cb a b 5) 5 i).toNat=(S i+(cC (cb a b 5) i).toNat) % 2 ^ 51:=fun i hi=>by
   obtain ⟨h1,h2⟩:=f i hi
   have hc:=(cC (cb a b 5) i).isLt
   have s:(cb a b 5 (i*2)).toNat*2 ^ 64+(cb a b 5 (i*2+1)).toNat=S i:=h1
   have:=Fh (hi:=cb a b 5 (i*2)) (lo:=cb a b 5 (i*2+1)) (c:=cC (cb a b 5) i) (by omega)
   rw [s] at this
   refine ⟨this.1,?_⟩
   unfold eZ
   rw [if_pos hi]
   exact this.2
 have d:=key 0 (by omega)
 have n:=key 1 (by omega)
 have o:=key 2 (by omega)
 have p:=key 3 (by omega)
 have g:=key 4 (by omega)
 have z:(cC (cb a b 5) 0).toNat=0:=BitVec.toNat_ofNat 0 64
 have t:=(f 3 (by omega)).2
 have u:=(cC (cb a b 5) 4).isLt
 have v:(cC (cb a b 5) 5).toNat < 2 ^ 58:=by rw [g.1];omega
 have h:(k8 a b 0).toNat=(eZ (cb a b 5) 5 0).toNat+19*(cC (cb a b 5) 5).toNat:=by
   show (an (eZ (cb a b 5) 5) 0 (eZ (cb a b 5) 5 0+19#64*cC (cb a b 5) 5) 0).toNat=_
   have hm:(19#64*cC (cb a b 5) 5).toNat=19*(cC (cb a b 5) 5).toNat:=by
     rw [nc (by rw [show (19#64:BitVec 64).toNat=19 by decide];omega),show (19#64:BitVec 64).toNat=19 by decide]
   rw [fz,iy (by rw [hm,d.2];omega),hm]
 have eq:∀q,0 < q→k8 a b q=eZ (cb a b 5) 5 q:=fun q hq=>eR _ _ _ _ (by omega)
 have l:cy (2 ^ 63) (k8 a b):=fun q hq=>by
   by_cases e:q=0
   · subst e;rw [h,d.2];omega
   · rw [eq q (by omega),(key q hq).2];omega
 have dQ:val (k8 a b) % aQ=val a*val b % aQ:=by
   rw [← hs]
   have w:aQ=57896044618658097711785492504343953926634992332820282019728792003956564819949:=by decide
   have:val (k8 a b)+aQ*(cC (cb a b 5) 5).toNat=S 0+S 1*2 ^ 51+S 2*2 ^ 102+S 3*2 ^ 153+S 4*2 ^ 204:=by
     unfold val
     rw [h,eq 1 (by omega),eq 2 (by omega),eq 3 (by omega),eq 4 (by omega),d.2,n.2,o.2,p.2,g.2,w]
     rw [z] at d
     rw [z]
     obtain ⟨D,-⟩:=d
     obtain ⟨E,-⟩:=n
     obtain ⟨F,-⟩:=o
     obtain ⟨G,-⟩:=p
     obtain ⟨H,-⟩:=g
     clear hs f key eq l h m t u v
     generalize (cC (cb a b 5) (0+1)).toNat=I at*
     generalize (cC (cb a b 5) (1+1)).toNat=J at*
     generalize (cC (cb a b 5) (2+1)).toNat=K at*
     generalize (cC (cb a b 5) (3+1)).toNat=L at*
     generalize (cC (cb a b 5) (4+1)).toNat=M at*
     generalize S 0=N at*
     generalize S 1=s1 at*
     generalize S 2=s2 at*
     generalize S 3=s3 at*
     generalize S 4=s4 at*
     omega
   rw [← this,Nat.add_mul_mod_self_left]
 exact ⟨by rw [← dQ];exact mg _ l,qN _ l⟩
end Go.Proofs.YtjclppnbbpnfnaaGreatDoor
namespace Go.Proofs.YtjclppnbbpnfnaaGreatDoor.Num
set_option linter.unusedSimpArgs false
set_option linter.unusedVariables false
set_option linter.unusedSectionVars false
def b9 (p:Nat):Prop:=2≤p∧∀d,d ∣ p→d=1∨d=p
theorem b9.dvd {p a b:Nat} (hp:b9 p) (h:p ∣ a*b):p ∣ a∨p ∣ b:=by
 rcases hp.2 _ (Nat.gcd_dvd_left p a) with h1 | h1
 · exact .inr (Nat.Coprime.dvd_of_dvd_mul_left (show Nat.Coprime p a from h1) h)
 · exact .inl (by rw [← h1];exact Nat.gcd_dvd_right p a)
theorem CP:∀n,2≤n→∃r,b9 r∧r ∣ n:=by
 intro n
 induction n using Nat.strongRecOn with
 | _ n c=>
   intro h2
   by_cases h:∃d,d ∣ n∧d≠1∧d≠n
   · obtain ⟨d,a,h1,b⟩:=h
     have hle:=Nat.le_of_dvd (by omega) a
     have i:d≠0:=fun e=>by subst e;have:=Nat.eq_zero_of_zero_dvd a;omega
     obtain ⟨r,f,g⟩:=c d (by omega) (by omega)
     exact ⟨r,f,Nat.dvd_trans g a⟩
   · refine ⟨n,⟨h2,fun d a=>?_⟩,Nat.dvd_refl n⟩
     by_cases h1:d=1
     · exact .inl h1
     · by_cases b:d=n
       · exact .inr b
       · exact absurd ⟨d,a,h1,b⟩ h
theorem sJ {n:Nat} (h2:2≤n) (c:¬b9 n):∃r,b9 r∧r ∣ n∧r*r≤n:=by
 by_cases h:∃d,d ∣ n∧d≠1∧d≠n
 · obtain ⟨d,⟨e,he⟩,h1,j⟩:=h
   have key:∀a b:Nat,n=a*b→a≠1→a≤b→∃r,b9 r∧r ∣ n∧r*r≤n:=by
     intro a b f ha hle
     have p:a≠0:=fun k=>by subst k;omega
     obtain ⟨r,l,g⟩:=CP a (by omega)
     have i:=Nat.le_of_dvd (by omega) g
     refine ⟨r,l,Nat.dvd_trans g ⟨b,f⟩,?_⟩
     rw [f]
     exact Nat.mul_le_mul i (Nat.le_trans i hle)
   rcases Nat.le_total d e with hle | hle
   · exact key d e he h1 hle
   · refine key e d (by rw [he,Nat.mul_comm]) (fun m=>?_) hle
     subst m;exact j (by omega)
 · exact absurd ⟨h2,fun d o=>by
     by_cases h1:d=1
     · exact .inl h1
     · by_cases c:d=n
       · exact .inr c
       · exact absurd ⟨d,o,h1,c⟩ h⟩ c
def ch:Nat→Nat→Nat
 | _,0=>1
 | 0,_+1=>0
 | n+1,k+1=>ch n k+ch n (k+1)
theorem mB (n:Nat):ch n 0=1:=by cases n <;> rfl
theorem nQ:∀n k,n < k→ch n k=0
 | 0,k+1,_=>rfl
 | n+1,k+1,h=>by
   show ch n k+ch n (k+1)=0
   rw [nQ n k (by omega),nQ n (k+1) (by omega)]
theorem vH:∀n,ch n n=1
 | 0=>rfl
 | n+1=>by
   show ch n n+ch n (n+1)=1
   rw [vH n,nQ n (n+1) (by omega)]
theorem qH:∀n k,(k+1)*ch (n+1) (k+1)=(n+1)*ch n k
 | 0,k=>by
   show (k+1)*(ch 0 k+ch 0 (k+1))=1*ch 0 k
   cases k with
   | zero=>rfl
   | succ k=>show (k+1+1)*(0+0)=1*0;omega
 | n+1,k=>by
   have a:=qH n k
   show (k+1)*(ch (n+1) k+ch (n+1) (k+1))=(n+1+1)*ch (n+1) k
   rw [Nat.mul_add,a]
   cases k with
   | zero=>rw [mB,mB];omega
   | succ j=>
     have b:=qH n j
     have e:ch (n+1) (j+1)=ch n j+ch n (j+1):=rfl
     rw [Nat.add_mul (j+1) 1,b,Nat.one_mul,Nat.add_mul (n+1) 1 (ch (n+1) (j+1)),Nat.one_mul]
     rw [e,Nat.mul_add]
     omega
def eC (n a:Nat):Nat→Nat
 | 0=>0
 | m+1=>eC n a m+ch n m*a ^ m
theorem uQ (n a:Nat):∀m,eC (n+1) a (m+1)=eC n a (m+1)+a*eC n a m
 | 0=>by simp [eC,mB]
 | m+1=>by
   have b:=uQ n a m
   show eC (n+1) a (m+1)+(ch n m+ch n (m+1))*a ^ (m+1)=(eC n a (m+1)+ch n (m+1)*a ^ (m+1))+a*(eC n a m+ch n m*a ^ m)
   rw [b,Nat.add_mul,Nat.mul_add,Nat.pow_succ]
   have:a*(ch n m*a ^ m)=ch n m*(a ^ m*a):=by rw [Nat.mul_comm (a ^ m) a,Nat.mul_left_comm]
   rw [this]
   omega
theorem r4 (a:Nat):∀n,eC n a (n+1)=(a+1) ^ n
 | 0=>by simp [eC,mB]
 | n+1=>by
   rw [uQ n a (n+1),r4 a n]
   have:eC n a (n+1+1)=eC n a (n+1):=by
     show eC n a (n+1)+ch n (n+1)*a ^ (n+1)=_
     rw [nQ n (n+1) (by omega),Nat.zero_mul,Nat.add_zero]
   rw [this,r4 a n,Nat.pow_succ,Nat.mul_add,Nat.mul_one,Nat.mul_comm a]
   omega
theorem Bz {p:Nat} (hp:b9 p) {k:Nat} (a:0 < k) (hk:k < p):p ∣ ch p k:=by
 obtain ⟨j,rfl⟩:∃j,k=j+1:=⟨k - 1,by omega⟩
 obtain ⟨n,rfl⟩:∃n,p=n+1:=⟨p - 1,by omega⟩
 have h:=qH n j
 have h1:n+1 ∣ (j+1)*ch (n+1) (j+1):=⟨_,h⟩
 rcases hp.dvd h1 with h2 | h2
 · exact absurd (Nat.le_of_dvd (by omega) h2) (by omega)
 · exact h2
theorem fresh {p:Nat} (hp:b9 p) (a:Nat):(a+1) ^ p % p=(a ^ p+1) % p:=by
 have key:∀m,m < p→eC p a (m+1) % p=1 % p:=by
   intro m
   induction m with
   | zero=>intro _;simp [eC,mB]
   | succ m b=>
     intro hm
     show (eC p a (m+1)+ch p (m+1)*a ^ (m+1)) % p=1 % p
     obtain ⟨c,hc⟩:=Bz hp (show 0 < m+1 by omega) hm
     rw [hc,Nat.mul_assoc,Nat.add_mul_mod_self_left]
     exact b (by omega)
 rw [← r4 a p]
 obtain ⟨n,rfl⟩:∃n,p=n+1:=⟨p - 1,by have:=hp.1;omega⟩
 show (eC (n+1) a (n+1)+ch (n+1) (n+1)*a ^ (n+1)) % (n+1)=_
 rw [vH,Nat.one_mul,Nat.add_mod,key n (by omega),← Nat.add_mod,Nat.add_comm]
theorem tL {p:Nat} (hp:b9 p):∀a,a ^ p % p=a % p
 | 0=>by rw [Nat.zero_pow (by have:=hp.1;omega)]
 | a+1=>by
   rw [fresh hp,Nat.add_mod,tL hp a,← Nat.add_mod]
theorem BA {p a b:Nat} (c:b≤a) (h:a % p=b % p):p ∣ a - b:=by
 refine ⟨a / p - b / p,?_⟩
 have h1:=Nat.div_add_mod a p
 have h2:=Nat.div_add_mod b p
 have h3:b / p≤a / p:=Nat.div_le_div_right c
 rw [Nat.mul_sub]
 omega
theorem Gy {p a b:Nat} (d:b≤a) (h:p ∣ a - b):a % p=b % p:=by
 obtain ⟨c,hc⟩:=h
 have:a=b+p*c:=by omega
 rw [this,Nat.add_mul_mod_self_left]
theorem wO {p:Nat} (hp:b9 p) {a:Nat} (ha:¬p ∣ a):a ^ (p - 1) % p=1:=by
 have h2:=hp.1
 have c:0 < a:=Nat.pos_of_ne_zero fun e=>ha (by rw [e];exact Nat.dvd_zero p)
 have h1:a ^ p=a*a ^ (p - 1):=by
   obtain ⟨n,f⟩:∃n,p=n+1:=⟨p - 1,by omega⟩
   rw [show a ^ p=a ^ (p - 1+1) by rw [show p - 1+1=p by omega],Nat.pow_succ,Nat.mul_comm]
 have b:1≤a ^ (p - 1):=Nat.pow_pos c
 have h3:p ∣ a ^ p - a:=BA (by rw [h1];exact Nat.le_mul_of_pos_right a b) (tL hp a)
 have d:a ^ p - a=a*(a ^ (p - 1) - 1):=by rw [Nat.mul_sub,Nat.mul_one,h1]
 rw [d] at h3
 rcases hp.dvd h3 with h | h
 · exact absurd h ha
 · rw [Gy b h,Nat.mod_eq_of_lt (by omega)]
def pm (N:Nat):Nat→Nat→Nat→Nat
 | 0,_,_=>1
 | f+1,b,e=>cond (Nat.beq (e % 2) 0) (pm N f (b*b % N) (e / 2)) (b*pm N f (b*b % N) (e / 2) % N)
theorem j2 (N:Nat):∀f b e,e < 2 ^ f→pm N f b e % N=b ^ e % N
 | 0,b,e,h=>by
   obtain rfl:e=0:=by simpa using h
   simp [pm]
 | f+1,b,e,h=>by
   have d:e / 2 < 2 ^ f:=by rw [Nat.pow_succ] at h;omega
   have a:=j2 N f (b*b % N) (e / 2) d
   have c:(b*b % N) ^ (e / 2) % N=b ^ (2*(e / 2)) % N:=by
     rw [← Nat.pow_mod,Nat.pow_mul,Nat.pow_two]
   unfold pm
   cases hb:Nat.beq (e % 2) 0 with
   | true=>
     have g:e % 2=0:=Nat.eq_of_beq_eq_true hb
     show pm N f (b*b % N) (e / 2) % N=_
     rw [a,c,show 2*(e / 2)=e by omega]
   | false=>
     have g:e % 2≠0:=Nat.ne_of_beq_eq_false hb
     show b*pm N f (b*b % N) (e / 2) % N % N=_
     rw [Nat.mod_mod,Nat.mul_mod,a,c,← Nat.mul_mod,show b ^ e=b*b ^ (2*(e / 2)) by
       conv=>lhs;rw [show e=2*(e / 2)+1 by omega]
       rw [Nat.pow_succ,Nat.mul_comm]]
theorem wE {r a m:Nat} (h:a ^ m % r=1 % r) (k:Nat):a ^ (m*k) % r=1 % r:=by
 rw [Nat.pow_mul,Nat.pow_mod,h,← Nat.pow_mod,Nat.one_pow]
theorem Ay {r a:Nat} (m n:Nat):a ^ m % r=1 % r→a ^ n % r=1 % r→a ^ Nat.gcd m n % r=1 % r:=by
 induction m,n using Nat.gcd.induction with
 | H0 n=>intro _ h;rw [Nat.gcd_zero_left];exact h
 | H1 m n hm b=>
   intro h1 h2
   rw [Nat.gcd_rec]
   refine b ?_ h1
   have h3:a ^ n=a ^ (m*(n / m))*a ^ (n % m):=by rw [← Nat.pow_add,Nat.div_add_mod]
   rw [h3,Nat.mul_mod,wE h1,← Nat.mul_mod,Nat.one_mul] at h2
   exact h2
theorem sj {N r a q:Nat} (d:b9 r) (b:r ∣ N) (hq:b9 q) (f:q ∣ N - 1) (h1:a ^ (N - 1) % N=1 % N) (h2:Nat.gcd (a ^ ((N - 1) / q) % N+(N - 1)) N=1) (v:2≤N):q ∣ r - 1:=by
 have w:=d.1
 have c:a ^ (N - 1) % r=1 % r:=by
   have:a ^ (N - 1) % N % r=1 % N % r:=by rw [h1]
   rw [Nat.mod_mod_of_dvd _ b,Nat.mod_mod_of_dvd _ b] at this
   exact this
 obtain ⟨M,e⟩:=f
 have g:0 < q:=by have:=hq.1;omega
 have i:(N - 1) / q=M:=by rw [e,Nat.mul_div_cancel_left _ g]
 rw [i] at h2
 have j:¬r ∣ a:=fun h=>by
   have l:a ^ (N - 1) % r=0:=Nat.mod_eq_zero_of_dvd (Nat.dvd_trans h (by obtain ⟨k,hk⟩:∃k,N - 1=k+1:=⟨N - 2,by omega⟩;rw [hk,Nat.pow_succ];exact Nat.dvd_mul_left _ _))
   rw [l,Nat.mod_eq_of_lt (by omega)] at c
   cases c
 rcases hq.2 _ (Nat.gcd_dvd_left q (r - 1)) with hg | hg
 · exfalso
   have h3:a ^ (r - 1) % r=1 % r:=by rw [wO d j,Nat.mod_eq_of_lt (by omega)]
   have m:=Ay (N - 1) (r - 1) c h3
   have n:Nat.Coprime (Nat.gcd (N - 1) (r - 1)) q:=by
     have:Nat.gcd (Nat.gcd (N - 1) (r - 1)) q ∣ Nat.gcd q (r - 1):=Nat.dvd_gcd (Nat.gcd_dvd_right _ _) (Nat.dvd_trans (Nat.gcd_dvd_left _ _) (Nat.gcd_dvd_right _ _))
     rw [hg] at this
     exact Nat.eq_one_of_dvd_one this
   have o:Nat.gcd (N - 1) (r - 1) ∣ M:=n.dvd_of_dvd_mul_left (by rw [← e];exact Nat.gcd_dvd_left _ _)
   obtain ⟨k,hk⟩:=o
   have p:a ^ M % r=1 % r:=by rw [hk];exact wE m k
   have s:r ∣ a ^ M % N+(N - 1):=by
     refine Nat.dvd_of_mod_eq_zero ?_
     have t:(a ^ M % N) % r=1 % r:=by rw [Nat.mod_mod_of_dvd _ b];exact p
     rw [Nat.add_mod,t,← Nat.add_mod,show 1+(N - 1)=N by omega]
     exact Nat.mod_eq_zero_of_dvd b
   have u:r ∣ 1:=by rw [← h2];exact Nat.dvd_gcd s b
   have:=Nat.le_of_dvd (by decide) u
   omega
 · rw [← hg];exact Nat.gcd_dvd_right _ _
theorem hW {N a q f:Nat} (hq:b9 q) (d:q ∣ N - 1) (hf:N - 1 < 2 ^ f) (h1:pm N f a (N - 1)=1) (h2:Nat.gcd (pm N f a ((N - 1) / q) % N+(N - 1)) N=1) (b:2≤N) (hF:N < q*q):b9 N:=by
 refine Classical.byContradiction fun hc=>?_
 obtain ⟨r,c,e,j⟩:=sJ b hc
 have g:a ^ (N - 1) % N=1 % N:=by rw [← j2 N f a (N - 1) hf,h1]
 have h:(N - 1) / q < 2 ^ f:=Nat.lt_of_le_of_lt (Nat.div_le_self _ _) hf
 rw [j2 N f a ((N - 1) / q) h] at h2
 have i:=sj c e hq d g h2 b
 have k:=c.1
 have hle:=Nat.le_of_dvd (by omega) i
 have:q*q≤r*r:=Nat.mul_le_mul (by omega) (by omega)
 omega
theorem lg {N a q b f:Nat} (hq:b9 q) (g:b9 b) (m:q≠b) (n:q ∣ N - 1) (o:b ∣ N - 1) (hf:N - 1 < 2 ^ f) (h1:pm N f a (N - 1)=1) (h2:Nat.gcd (pm N f a ((N - 1) / q) % N+(N - 1)) N=1) (i:Nat.gcd (pm N f a ((N - 1) / b) % N+(N - 1)) N=1)
   (c:2≤N) (hF:N < (q*b)*(q*b)):b9 N:=by
 refine Classical.byContradiction fun hc=>?_
 obtain ⟨r,d,j,u⟩:=sJ c hc
 have k:a ^ (N - 1) % N=1 % N:=by rw [← j2 N f a (N - 1) hf,h1]
 have l:∀q,(N - 1) / q < 2 ^ f:=fun q=>Nat.lt_of_le_of_lt (Nat.div_le_self _ _) hf
 rw [j2 N f a _ (l q)] at h2
 rw [j2 N f a _ (l b)] at i
 have p:=sj d j hq n k h2 c
 have s:=sj d j g o k i c
 have v:=d.1
 have t:Nat.Coprime q b:=by
   rcases hq.2 _ (Nat.gcd_dvd_left q b) with h | h
   · exact h
   · rcases g.2 _ (Nat.gcd_dvd_right q b) with e | e
     · exact e
     · exact absurd (h.symm.trans e) m
 have hle:=Nat.le_of_dvd (by omega) (t.mul_dvd_of_dvd_of_dvd p s)
 have:(q*b)*(q*b)≤r*r:=Nat.mul_le_mul (by omega) (by omega)
 omega
def oq (n:Nat):Nat→Bool
 | 0=>true
 | m+1=>cond (Nat.ble 2 (m+1)) (cond (Nat.beq (n % (m+1)) 0) false (oq n m)) true
theorem yo (n:Nat):∀m,oq n m=true→∀d,2≤d→d≤m→¬d ∣ n
 | 0,_,d,h2,hm=>by omega
 | m+1,h,d,h2,hm=>by
   have hb:Nat.ble 2 (m+1)=true:=Nat.ble_eq_true_of_le (by omega)
   unfold oq at h
   rw [hb,cond_true] at h
   cases a:Nat.beq (n % (m+1)) 0 with
   | true=>rw [a] at h;cases h
   | false=>
     rw [a,cond_false] at h
     by_cases he:d=m+1
     · subst he
       intro b
       exact Nat.ne_of_beq_eq_false a (Nat.mod_eq_zero_of_dvd b)
     · exact yo n m h d h2 (by omega)
theorem jf {n m:Nat} (h2:2≤n) (hm:n < (m+1)*(m+1)) (h:oq n m=true):b9 n:=by
 refine Classical.byContradiction fun hc=>?_
 obtain ⟨r,b,c,d⟩:=sJ h2 hc
 have:r≤m:=Nat.le_of_not_lt fun a=>by
   have:(m+1)*(m+1)≤r*r:=Nat.mul_le_mul a a
   omega
 exact yo n m h r b.1 this c
theorem D4:b9 430751:=jf (m:=657) (by decide) (by decide) (by decide +kernel)
theorem Bu:b9 4153:=jf (m:=65) (by decide) (by decide) (by decide +kernel)
theorem FW:b9 127:=jf (m:=12) (by decide) (by decide) (by decide +kernel)
theorem ED:b9 991:=jf (m:=32) (by decide) (by decide) (by decide +kernel)
theorem Ca:b9 103:=jf (m:=11) (by decide) (by decide) (by decide +kernel)
theorem A4:b9 569003:=jf (m:=755) (by decide) (by decide) (by decide +kernel)
theorem Bm:b9 8574133:=lg (a:=2) (f:=24) ED Ca (by decide) (by decide +kernel) (by decide +kernel) (by decide +kernel) (by decide +kernel) (by decide +kernel) (by decide +kernel) (by decide +kernel) (by decide +kernel)
theorem EN:b9 31757755568855353:=lg (a:=2) (f:=56) D4 Bu (by decide) (by decide +kernel) (by decide +kernel) (by decide +kernel) (by decide +kernel) (by decide +kernel) (by decide +kernel) (by decide +kernel) (by decide +kernel)
theorem EO:b9 1919519569386763:=lg (a:=2) (f:=56) Bm FW (by decide) (by decide +kernel) (by decide +kernel) (by decide +kernel) (by decide +kernel) (by decide +kernel) (by decide +kernel) (by decide +kernel) (by decide +kernel)
theorem C3:b9 2773320623:=hW (a:=2) (f:=40) A4 (by decide +kernel) (by decide +kernel) (by decide +kernel) (by decide +kernel) (by decide +kernel) (by decide +kernel)
theorem Cb:b9 72106336199:=hW (a:=2) (f:=40) C3 (by decide +kernel) (by decide +kernel) (by decide +kernel) (by decide +kernel) (by decide +kernel) (by decide +kernel)
theorem Fg:b9 75445702479781427272750846543864801:=lg (a:=2) (f:=120) EO Cb (by decide) (by decide +kernel) (by decide +kernel) (by decide +kernel) (by decide +kernel) (by decide +kernel) (by decide +kernel) (by decide +kernel) (by decide +kernel)
theorem Ai:b9 74058212732561358302231226437062788676166966415465897661863160754340907:=lg (a:=2) (f:=240) Fg EN (by decide +kernel) (by decide +kernel) (by decide +kernel) (by decide +kernel) (by decide +kernel) (by decide +kernel) (by decide +kernel) (by decide +kernel) (by decide +kernel)
theorem rS:b9 (2 ^ 255 - 19):=hW (a:=2) (f:=255) Ai (by decide +kernel) (by decide +kernel) (by decide +kernel) (by decide +kernel) (by decide +kernel) (by decide +kernel)
end Go.Proofs.YtjclppnbbpnfnaaGreatDoor.Num
namespace Go.Proofs.YtjclppnbbpnfnaaGreatDoor
set_option linter.unusedSimpArgs false
set_option linter.unusedVariables false
set_option linter.unusedSectionVars false
open Go Go.LW
set_option maxRecDepth 10000
instance:NeZero aQ:=⟨by decide⟩
abbrev Fp:=Fin aQ
theorem C0:aQ < 2 ^ 255:=by decide
def a6 (n:Nat):Fp:=Fin.ofNat aQ n
theorem ka (n:Nat):(a6 n).val=n % aQ:=rfl
theorem mJ {m n:Nat}:a6 m=a6 n↔m % aQ=n % aQ:=by
 constructor
 · intro h;exact congrArg Fin.val h
 · intro h;exact Fin.ext h
theorem fG (m n:Nat):a6 (m*n)=a6 m*a6 n:=by
 apply Fin.ext
 rw [Fin.val_mul,ka,ka,ka,← Nat.mul_mod]
theorem hA (m n:Nat):a6 (m+n)=a6 m+a6 n:=by
 apply Fin.ext
 rw [Fin.val_add,ka,ka,ka,← Nat.add_mod]
theorem tC:a6 1=1:=rfl
theorem qE {m n:Nat} (h:m % aQ=n % aQ):a6 m=a6 n:=mJ.2 h
theorem x3 (x:Fp):a6 x.val=x:=Fin.ext (Nat.mod_eq_of_lt x.isLt)
theorem rH (m:Nat):∀n,a6 (m ^ n)=a6 m ^ n
 | 0=>by rw [Nat.pow_zero,tC];exact (by grind:(1:Fp)=a6 m ^ 0)
 | n+1=>by rw [Nat.pow_succ,fG,rH m n];grind
theorem tZ:a6 aQ=0:=Fin.ext (Nat.mod_self aQ)
def Rp (l:F5) (x:Fp):Prop:=cy Tt l∧a6 (val l)=x
theorem Rp.np {l:F5} {x:Fp} (h:Rp l x):cy (2 ^ 63) l:=fun q hq=>Nat.lt_of_lt_of_le (h.1 q hq) (by decide)
def iM (b:Nat→BitVec 8):Fp:=a6 (bl b 32 % 2 ^ 255)
theorem Gk (b:Nat→BitVec 8):Rp (e9 b) (iM b):=⟨fun q hq=>Nat.lt_of_lt_of_le (y2 b q hq) (by decide),by rw [Cr];rfl⟩
theorem fq {a b:F5} {x y:Fp} (ha:Rp a x) (hb:Rp b y):Rp (dO a b) (x*y):=by
 obtain ⟨h1,h2⟩:=D7 (ha.1.mono u4) (hb.1.mono u4)
 refine ⟨h2,?_⟩
 rw [qE h1,fG,ha.2,hb.2]
def h0 (n:BitVec 32):F5:=an (fun _=>0#64) 0 (n.setWidth 64)
theorem qL (n:BitVec 32):k7 n (h0 n):=rfl
theorem km (n:BitVec 32) (q:Nat):(h0 n q).toNat=if q=0 then n.toNat else 0:=by
 unfold h0
 rw [da]
 by_cases h:q=0
 · rw [if_pos h,if_pos h,BitVec.toNat_setWidth,Nat.mod_eq_of_lt (by have:=n.isLt;omega)]
 · rw [if_neg h,if_neg h];exact BitVec.toNat_ofNat 0 64
theorem uI (n:BitVec 32):Rp (h0 n) (a6 n.toNat):=by
 have h:=n.isLt
 refine ⟨fun q _=>?_,?_⟩
 · rw [km];unfold Tt;split <;> omega
 · unfold val
   rw [km,km,km,km,km]
   simp
theorem Ae:Rp (fun _=>0#64) 0:=by
 have a:(0#64:BitVec 64).toNat=0:=BitVec.toNat_ofNat 0 64
 refine ⟨fun q _=>by show (0#64:BitVec 64).toNat < _;rw [a];decide,?_⟩
 unfold val
 rw [a]
 rfl
theorem rV:Rp (h0 1#32) 1:=uI 1#32
theorem qp {b a:Nat→BitVec 8}:∀n,(∀q,q < n→b q=a q)→bl b n=bl a n
 | 0,_=>rfl
 | n+1,h=>by simp only [bl];rw [qp n fun q hq=>h q (by omega),h n (by omega)]
theorem nL (b:Nat→BitVec 8) {q:Nat} (hq:q < 32):(b q).toNat=bl b 32 / 256 ^ q % 256:=by
 have h1:=tA b q (32 - q)
 rw [show q+(32 - q)=32 by omega] at h1
 have h2:=xM (fun j=>b (q+j)) 1 (31 - q)
 rw [show 1+(31 - q)=32 - q by omega] at h2
 rw [h1,show (256:Nat)=256 ^ 1 by decide,h2]
 simp [bl]
theorem xF {b a:Nat→BitVec 8}:c9 32 b a=true↔bl b 32=bl a 32:=by
 constructor
 · intro h;exact qp 32 (pz.1 h)
 · intro h
   refine pz.2 fun q hq=>?_
   apply BitVec.eq_of_toNat_eq
   rw [nL b hq,nL a hq,h]
theorem Bt {a:F5} {x:Fp} (h:Rp a x):bl (nq a) 32=x.val:=by
 rw [EB a h.np,← h.2];rfl
def gN (n:Nat→BitVec 8) (t:Nat):Prop:=((n (t / 8)) >>> (t % 8)) &&& 1#8=1#8
instance (n:Nat→BitVec 8) (t:Nat):Decidable (gN n t):=inferInstanceAs (Decidable (_=_))
def fe (a:F5) (n:Nat→BitVec 8):Nat→F5
 | 0=>h0 1#32
 | i+1=>if gN n (255 - i) then dO (dO (fe a n i) (fe a n i)) a else dO (fe a n i) (fe a n i)
theorem xT (n:Nat→BitVec 8) {t:Nat} (b:t < 256):gN n t↔bl n 32 / 2 ^ t % 2=1:=by
 have h:=nL n (q:=t / 8) (by omega)
 have h1:(((n (t / 8)) >>> (t % 8)) &&& 1#8).toNat=(n (t / 8)).toNat / 2 ^ (t % 8) % 2:=by
   rw [BitVec.toNat_and,BitVec.toNat_ushiftRight,Nat.shiftRight_eq_div_pow,show (1#8:BitVec 8).toNat=2 ^ 1 - 1 by decide,Nat.and_two_pow_sub_one_eq_mod]
 have h2:(n (t / 8)).toNat / 2 ^ (t % 8) % 2=bl n 32 / 2 ^ t % 2:=by
   rw [h]
   have a:∀M s,s < 8→M % 256 / 2 ^ s % 2=M / 2 ^ s % 2:=fun M s hs=>by
     rcases (by omega:s=0∨s=1∨s=2∨s=3∨s=4∨s=5∨s=6∨s=7) with rfl | rfl | rfl | rfl | rfl | rfl | rfl | rfl <;> omega
   rw [a _ _ (Nat.mod_lt _ (by decide)),Nat.div_div_eq_div_mul,show (256:Nat)=2 ^ 8 by decide,← Nat.pow_mul,← Nat.pow_add,Nat.div_add_mod]
 unfold gN
 constructor
 · intro h3;rw [← h2,← h1,h3];rfl
 · intro h3
   apply BitVec.eq_of_toNat_eq
   rw [h1,h2,h3];rfl
theorem CE (a:F5) (n:Nat→BitVec 8):nr a n (fe a n 256):=by
 refine ⟨_,qL _,fe a n 256,?_,rfl⟩
 have h:=b7 (step:=lQ a n) (x:=fe a n 256) (fun i=>((255:Int) - (i:Int),fe a n i)) 256 (fun i hi=>by
   obtain ⟨k,hk,c⟩:∃k:Nat,(255:Int) - (i:Int)=(k:Int)∧k=255 - i:=⟨255 - i,by omega,rfl⟩
   have d1:((k:Int).tdiv 8)=((k / 8:Nat):Int):=by rw [Int.tdiv_eq_ediv_of_nonneg (by omega)];omega
   have d2:((k:Int).tmod 8)=((k % 8:Nat):Int):=by rw [Int.tmod_eq_emod_of_nonneg (by omega)];omega
   have d:k / 8 < 32:=by omega
   unfold lQ;dsimp only
   rw [hk,d1,d2,if_pos (by omega)]
   refine ⟨_,nt _,by omega,by omega,by omega,?_⟩
   rw [Int.toNat_natCast,Int.toNat_natCast]
   have e:(255:Int) - ((i+1:Nat):Int)=(k:Int) - 1:=by omega
   rw [e]
   by_cases hb:gN n k
   · rw [if_pos (show ((n (k / 8)) >>> (k % 8)) &&& 1#8=1#8 from hb)]
     refine ⟨_,hV _ _,by omega,?_⟩
     have b:fe a n (i+1)=dO (dO (fe a n i) (fe a n i)) a:=by
       show (if gN n (255 - i) then _ else _)=_
       rw [← c,if_pos hb]
     rw [b]
   · rw [if_neg (show¬((n (k / 8)) >>> (k % 8)) &&& 1#8=1#8 from hb)]
     refine ⟨by omega,?_⟩
     have b:fe a n (i+1)=dO (fe a n i) (fe a n i):=by
       show (if gN n (255 - i) then _ else _)=_
       rw [← c,if_neg hb]
     rw [b]) (by
   unfold lQ;dsimp only
   rw [if_neg (by omega)])
 exact h
theorem iE (x:Fp) (m n:Nat):x ^ (m+n)=x ^ m*x ^ n:=by grind
theorem r_ (x y:Fp):∀n:Nat,(x*y) ^ n=x ^ n*y ^ n
 | 0=>by grind
 | n+1=>by
   have:=r_ x y n
   have a:(x*y) ^ (n+1)=(x*y) ^ n*(x*y):=by grind
   rw [a,this];grind
theorem Be (x:Fp):x ^ 0=1:=by grind
theorem uY {a:F5} {x:Fp} (ha:Rp a x) (n:Nat→BitVec 8):∀i,i≤256→Rp (fe a n i) (x ^ (bl n 32 / 2 ^ (256 - i)))
 | 0,_=>by
   have h:=mx n 32
   rw [Nat.div_eq_of_lt (by rw [show (2:Nat) ^ (256 - 0)=256 ^ 32 by decide +kernel];exact h),Be]
   exact rV
 | i+1,hi=>by
   have b:=uY ha n i (by omega)
   have hb:=xT n (t:=255 - i) (by omega)
   have e:256 - (i+1)=255 - i:=by omega
   have c:256 - i=(255 - i)+1:=by omega
   have d:bl n 32 / 2 ^ (256 - i)=bl n 32 / 2 ^ (255 - i) / 2:=by rw [c,Nat.pow_succ,Nat.div_div_eq_div_mul]
   rw [d] at b
   rw [e]
   generalize bl n 32 / 2 ^ (255 - i)=M at b hb ⊢
   show Rp (if gN n (255 - i) then _ else _) _
   by_cases h:gN n (255 - i)
   · rw [if_pos h]
     have h1:=hb.1 h
     have:=fq (fq b b) ha
     have f:x ^ (M / 2)*x ^ (M / 2)*x=x ^ M:=by
       rw [← iE,show M=(M / 2+M / 2)+1 by omega,iE x _ 1,show (M / 2+M / 2+1) / 2=M / 2 by omega]
       grind
     rw [f] at this
     exact this
   · rw [if_neg h]
     have h1:M % 2=0:=by
       have:¬M % 2=1:=fun h2=>h (hb.2 h2)
       omega
     have:=fq b b
     rw [← iE,show M / 2+M / 2=M by omega] at this
     exact this
theorem CL {a:F5} {x:Fp} (ha:Rp a x) (n:Nat→BitVec 8):∃r,nr a n r∧Rp r (x ^ bl n 32):=by
 refine ⟨_,CE a n,?_⟩
 have:=uY ha n 256 (Nat.le_refl _)
 rw [show 256 - 256=0 by omega,Nat.pow_zero,Nat.div_one] at this
 exact this
theorem rS:Num.b9 aQ:=Num.rS
theorem rP {x:Fp} (h:x≠0):x ^ (aQ - 1)=1:=by
 have h1:¬aQ ∣ x.val:=fun b=>h (Fin.ext (by
   have:=x.isLt
   rcases Nat.eq_zero_or_pos x.val with a | a
   · exact a
   · exact absurd (Nat.le_of_dvd a b) (by omega)))
 have h2:=Num.wO rS h1
 have h3:a6 (x.val ^ (aQ - 1))=a6 1:=mJ.2 (by rw [h2,Nat.mod_eq_of_lt (by decide)])
 rw [rH,x3,tC] at h3
 exact h3
theorem en {x y:Fp} (h:x*y=0):x=0∨y=0:=by
 by_cases hx:x=0
 · exact .inl hx
 · refine .inr ?_
   have h1:=rP hx
   have h2:x ^ (aQ - 1)=x*x ^ (aQ - 2):=by
     rw [show aQ - 1=(aQ - 2)+1 by decide,iE]
     grind
   rw [h2] at h1
   grind
theorem iX:(1:Fp)≠0:=by
 intro h
 have:=congrArg Fin.val h
 exact absurd this (by decide +kernel)
end Go.Proofs.YtjclppnbbpnfnaaGreatDoor
namespace Go.Proofs.YtjclppnbbpnfnaaGreatDoor
set_option linter.unusedSimpArgs false
set_option linter.unusedVariables false
set_option linter.unusedSectionVars false
open Go Go.LW
set_option maxRecDepth 10000
theorem BZ (n:BitVec 8):bl (an (fun _=>0#8) 0 n) 32=n.toNat:=by
 have h1:=qz (an (fun _=>0#8) 0 n) 1 31
 have h2:bl (fun q=>an (fun _=>0#8) 0 n (1+q)) 31=bl (fun _=>0#8) 31:=qp 31 fun q hq=>eR _ _ _ _ (by omega)
 have h3:bl (fun _=>0#8) 31=0:=by decide +kernel
 rw [show 1+31=32 by decide,h2,h3] at h1
 rw [h1];simp [bl,fz]
theorem C_:bl (fun _=>0#8) 32=0:=by decide +kernel
def iG (i:Nat):Nat→BitVec 8:=fun q=>if q < i then 255#8 else 0#8
def q9 (a b:BitVec 8):Nat→BitVec 8:=an (an (iG 32) 0 a) 31 b
theorem Gq (a b:BitVec 8):ow a b (q9 a b):=by
 refine ⟨iG 32,?_,rfl⟩
 have e:(fun _=>0#8)=iG 0:=by funext q;unfold iG;rw [if_neg (by omega)]
 rw [e]
 refine b7 (fun i=>(i,iG i)) 32 (fun i hi=>?_) ?_
 · unfold nV;dsimp only
   rw [if_pos hi]
   have:an (iG i) i 255#8=iG (i+1):=by
     funext q
     rw [da]
     unfold iG
     by_cases h:q=i
     · rw [if_pos h,if_pos (by omega)]
     · rw [if_neg h]
       by_cases h2:q < i
       · rw [if_pos h2,if_pos (by omega)]
       · rw [if_neg h2,if_neg (by omega)]
   rw [this]
 · unfold nV;dsimp only
   rw [if_neg (by omega)]
theorem DW:bl (q9 235#8 127#8) 32=aQ - 2:=by decide +kernel
def bw (x:Fp):Fp:=x ^ (aQ - 2)
theorem CV {a:F5} {x:Fp} (ha:Rp a x):∃r,qf a r∧Rp r (bw x):=by
 obtain ⟨r,h1,h2⟩:=CL ha (q9 235#8 127#8)
 rw [DW] at h2
 exact ⟨r,⟨_,Gq _ _,_,h1,rfl⟩,h2⟩
theorem inv_mul {x:Fp} (h:x≠0):x*bw x=1:=by
 have h1:=rP h
 rw [show aQ - 1=(aQ - 2)+1 by decide,iE] at h1
 unfold bw
 grind
theorem zero_pow {n:Nat} (h:0 < n):(0:Fp) ^ n=0:=by
 obtain ⟨m,rfl⟩:∃m,n=m+1:=⟨n - 1,by omega⟩
 rw [iE];grind
theorem inv_zero:bw 0=0:=zero_pow (by decide)
theorem qu {x:Fp} (h:x≠0):bw x≠0:=by
 intro a
 have:=inv_mul h
 rw [a] at this
 exact iX (by grind)
theorem El (x y:Fp):bw (x*y)=bw x*bw y:=r_ _ _ _
end Go.Proofs.YtjclppnbbpnfnaaGreatDoor
namespace Go.Proofs.YtjclppnbbpnfnaaGreatDoor
set_option linter.unusedSimpArgs false
set_option linter.unusedVariables false
set_option linter.unusedSectionVars false
open Go Go.LW
set_option maxRecDepth 10000
def fm (a b:F5) (i:Nat):F5:=fun q=>if q < i then a q+b q else a q
def iv (a b:F5):F5:=b3 (fm a b 5)
theorem pC (a b:F5):jV a b (iv a b):=by
 refine ⟨fm a b 5,?_,_,ml _,rfl⟩
 have e:fm a b 0=a:=by funext q;unfold fm;rw [if_neg (by omega)]
 have h:=b7 (step:=mH b) (x:=fm a b 5) (fun i=>(i,fm a b i)) 5 (fun i hi=>by
   unfold mH;dsimp only
   rw [if_pos hi]
   have:an (fm a b i) i (fm a b i i+b i)=fm a b (i+1):=by
     funext q
     rw [da]
     unfold fm
     by_cases h:q=i
     · subst h;rw [if_pos rfl,if_neg (by omega),if_pos (by omega)]
     · rw [if_neg h]
       by_cases h2:q < i
       · rw [if_pos h2,if_pos (by omega)]
       · rw [if_neg h2,if_neg (by omega)]
   rw [this]) (by
   unfold mH;dsimp only
   rw [if_neg (by omega)])
 rw [e] at h
 exact h
theorem lz {a b:F5} {x y:Fp} (ha:Rp a x) (hb:Rp b y):Rp (iv a b) (x+y):=by
 have hq:∀q,q < 5→(fm a b 5 q).toNat=(a q).toNat+(b q).toNat:=fun q hq=>by
   have h1:=ha.1 q hq
   have h2:=hb.1 q hq
   unfold Tt at h1 h2
   unfold fm
   rw [if_pos hq,BitVec.toNat_add,Nat.mod_eq_of_lt (by omega)]
 have d:cy (2 ^ 63) (fm a b 5):=fun q c=>by
   have h1:=ha.1 q c
   have h2:=hb.1 q c
   unfold Tt at h1 h2
   rw [hq q c];omega
 refine ⟨qN _ d,?_⟩
 unfold iv
 rw [qE (mg _ d)]
 have:val (fm a b 5)=val a+val b:=by
   unfold val
   rw [hq 0 (by omega),hq 1 (by omega),hq 2 (by omega),hq 3 (by omega),hq 4 (by omega)]
   omega
 rw [this,hA,ha.2,hb.2]
def e5 (a b:F5) (i:Nat):F5:=fun q=>if q < i then a q+(dn q - b q) else a q
def i_ (a b:F5):F5:=b3 (e5 a b 5)
theorem pO (a b:F5):jX a b (i_ a b):=by
 refine ⟨e5 a b 5,?_,_,ml _,rfl⟩
 have e:e5 a b 0=a:=by funext q;unfold e5;rw [if_neg (by omega)]
 have h:=b7 (step:=nn b) (x:=e5 a b 5) (fun i=>(i,e5 a b i)) 5 (fun i hi=>by
   unfold nn;dsimp only
   rw [if_pos hi]
   have:an (e5 a b i) i (e5 a b i i+(dn i - b i))=e5 a b (i+1):=by
     funext q
     rw [da]
     unfold e5
     by_cases h:q=i
     · subst h;rw [if_pos rfl,if_neg (by omega),if_pos (by omega)]
     · rw [if_neg h]
       by_cases h2:q < i
       · rw [if_pos h2,if_pos (by omega)]
       · rw [if_neg h2,if_neg (by omega)]
   rw [this]) (by
   unfold nn;dsimp only
   rw [if_neg (by omega)])
 rw [e] at h
 exact h
theorem sr:∀q,q < 5→(dn q).toNat=if q=0 then 4503599627370458 else 4503599627370494:=by decide +kernel
theorem nz {a b:F5} {x y:Fp} (ha:Rp a x) (hb:Rp b y):Rp (i_ a b) (x - y):=by
 have hq:∀q,q < 5→(e5 a b 5 q).toNat+(b q).toNat=(a q).toNat+(dn q).toNat:=fun q hq=>by
   have h1:=ha.1 q hq
   have h2:=hb.1 q hq
   have h3:=sr q hq
   unfold Tt at h1 h2
   unfold e5
   rw [if_pos hq,BitVec.toNat_add,BitVec.toNat_sub,h3]
   split <;> omega
 have d:cy (2 ^ 63) (e5 a b 5):=fun q c=>by
   have h1:=ha.1 q c
   have h2:=hb.1 q c
   have h3:=sr q c
   have e:=hq q c
   unfold Tt at h1 h2
   rw [h3] at e
   split at e <;> omega
 refine ⟨qN _ d,?_⟩
 unfold i_
 rw [qE (mg _ d)]
 have hp:aQ=57896044618658097711785492504343953926634992332820282019728792003956564819949:=by decide
 have:val (e5 a b 5)+val b=val a+2*aQ:=by
   have f:=hq 0 (by omega)
   have g:=hq 1 (by omega)
   have h:=hq 2 (by omega)
   have i:=hq 3 (by omega)
   have j:=hq 4 (by omega)
   rw [sr _ (by omega)] at f g h i j
   rw [if_pos rfl] at f
   rw [if_neg (by omega)] at g h i j
   unfold val
   rw [hp]
   omega
 have h2:a6 (val (e5 a b 5))+y=x:=by
   rw [← hb.2,← hA,this,hA,ha.2,fG,tZ]
   grind
 generalize a6 (val (e5 a b 5))=z at h2 ⊢
 grind
end Go.Proofs.YtjclppnbbpnfnaaGreatDoor
namespace Go.Proofs.YtjclppnbbpnfnaaGreatDoor
set_option linter.unusedSimpArgs false
set_option linter.unusedVariables false
set_option linter.unusedSectionVars false
open Go Go.LW
set_option maxRecDepth 10000
def cu (k:Nat→BitVec 8):Nat→BitVec 8:=an (an k 0 ((k 0) &&& ~~~(7#8))) 31 ((((an k 0 ((k 0) &&& ~~~(7#8))) 31) &&& (127#8)) ||| (64#8))
theorem yh (k:Nat→BitVec 8):nw k (cu k):=rfl
abbrev F4:=F5×F5×F5×F5
abbrev P1:=Fp×Fp
def jU (l:F4) (P Q:P1):Prop:=Rp l.1 P.1∧Rp l.2.1 P.2∧Rp l.2.2.1 Q.1∧Rp l.2.2.2 Q.2
def fW (P:P1):P1:=
 (((P.1+P.2)*(P.1+P.2))*((P.1 - P.2)*(P.1 - P.2)),((P.1+P.2)*(P.1+P.2) - (P.1 - P.2)*(P.1 - P.2))*((P.1+P.2)*(P.1+P.2)+a6 121665*((P.1+P.2)*(P.1+P.2) - (P.1 - P.2)*(P.1 - P.2))))
def fb (u:Fp) (P Q:P1):P1:=
 (((Q.1 - Q.2)*(P.1+P.2)+(Q.1+Q.2)*(P.1 - P.2))*((Q.1 - Q.2)*(P.1+P.2)+(Q.1+Q.2)*(P.1 - P.2)),
  u*(((Q.1 - Q.2)*(P.1+P.2) - (Q.1+Q.2)*(P.1 - P.2))*((Q.1 - Q.2)*(P.1+P.2) - (Q.1+Q.2)*(P.1 - P.2))))
theorem Eu (u:Fp) (P Q:P1):fb u P Q=fb u Q P:=by
 unfold fb
 refine Prod.ext ?_ ?_
 · show _=_;grind
 · show _=_;grind
def nj (u:F5) (s:F4):F4:=
 let a:=iv s.1 s.2.1
 let b:=i_ s.1 s.2.1
 let c:=iv s.2.2.1 s.2.2.2
 let d:=i_ s.2.2.1 s.2.2.2
 let e:=dO d a
 let g:=dO c b
 let h:=dO a a
 let i:=dO b b
 let f:=i_ h i
 (dO h i,dO f (iv h (dO (h0 121665#32) f)),dO (iv e g) (iv e g),dO u (dO (i_ e g) (i_ e g)))
theorem Gu (u:F5) (s:F4):oY u s.1 s.2.1 s.2.2.1 s.2.2.2 (nj u s):=
 ⟨_,pC _ _,_,pO _ _,_,pC _ _,_,pO _ _,_,hV _ _,_,hV _ _,_,pC _ _,_,nt _,_,pO _ _,_,nt _,_,hV _ _,_,nt _,_,nt _,_,pO _ _,_,hV _ _,_,qL _,_,hV _ _,_,pC _ _,_,hV _ _,rfl⟩
theorem xU {u:F5} {j:Fp} (hu:Rp u j) {s:F4} {P Q:P1} (h:jU s P Q):jU (nj u s) (fW P) (fb j P Q):=by
 obtain ⟨h1,h2,h3,k⟩:=h
 have a:=lz h1 h2
 have b:=nz h1 h2
 have c:=lz h3 k
 have d:=nz h3 k
 have e:=fq d a
 have g:=fq c b
 have i:=fq a a
 have l:=fq b b
 have f:=nz i l
 exact ⟨fq i l,fq f (lz i (fq (uI 121665#32) f)),fq (lz e g) (lz e g),fq hu (fq (nz e g) (nz e g))⟩
def eN (b:Nat) (s:F4):F4:=if b=1 then (s.2.2.1,s.2.2.2,s.1,s.2.1) else s
theorem yi (b:Nat) (hb:b < 2) (s:F4):l2 ((b:Nat):Int) s.1 s.2.1 s.2.2.1 s.2.2.2 (eN b s):=by
 obtain ⟨a,e,c,d⟩:=s
 by_cases h:b=1
 · subst h
   exact ⟨c,a,by unfold jg;rw [if_pos (by decide)],d,e,by unfold jg;rw [if_pos (by decide)],by unfold eN;rw [if_pos rfl]⟩
 · obtain rfl:b=0:=by omega
   exact ⟨a,c,by unfold jg;rw [if_neg (by decide)],e,d,by unfold jg;rw [if_neg (by decide)],by unfold eN;rw [if_neg (by decide)]⟩
def fA (k:Nat→BitVec 8) (t:Nat):Nat:=((k (t / 8)) >>> (t % 8)).toNat &&& 1
theorem CO (k:Nat→BitVec 8) {t:Nat} (a:t < 256):fA k t=bl k 32 / 2 ^ t % 2:=by
 have h:=xT k a
 unfold fA
 unfold gN at h
 have e:((k (t / 8)) >>> (t % 8)).toNat &&& 1=((k (t / 8)) >>> (t % 8)).toNat % 2:=Nat.and_one_is_mod _
 rw [e]
 have h1:(((k (t / 8)) >>> (t % 8)) &&& 1#8).toNat=((k (t / 8)) >>> (t % 8)).toNat % 2:=by
   rw [BitVec.toNat_and,show (1#8:BitVec 8).toNat=1 by decide,Nat.and_one_is_mod]
 have h2:((k (t / 8)) >>> (t % 8)) &&& 1#8=1#8↔((k (t / 8)) >>> (t % 8)).toNat % 2=1:=by
   constructor
   · intro h3;rw [← h1,h3];rfl
   · intro h3
     apply BitVec.eq_of_toNat_eq
     rw [h1,h3];rfl
 rw [h2] at h
 omega
theorem r' (k:Nat→BitVec 8) (t:Nat):fA k t < 2:=by
 unfold fA;rw [Nat.and_one_is_mod];omega
def c0 (k:Nat→BitVec 8) (u:F5):Nat→Nat×F4
 | 0=>(0,(h0 1#32,(fun _=>0#64),u,h0 1#32))
 | i+1=>(fA k (254 - i),nj u (eN (fA k (254 - i) ^^^ (c0 k u i).1) (c0 k u i).2))
theorem rT (k:Nat→BitVec 8) (u:F5):∀i,(c0 k u i).1 < 2
 | 0=>by show 0 < 2;decide
 | i+1=>r' k _
theorem CB {a b:Nat} (ha:a < 2) (hb:b < 2):a ^^^ b < 2:=by
 rcases (by omega:a=0∨a=1) with rfl | rfl <;> rcases (by omega:b=0∨b=1) with rfl | rfl <;> decide
def b1 (K:Nat) (a:Fp):Nat→P1×P1
 | 0=>((1,0),(a,1))
 | i+1=>if K / 2 ^ (254 - i) % 2=1 then (fb a (b1 K a i).1 (b1 K a i).2,fW (b1 K a i).2) else (fW (b1 K a i).1,fb a (b1 K a i).1 (b1 K a i).2)
theorem wZ (k:Nat→BitVec 8) {u:F5} {a:Fp} (hu:Rp u a):∀i,i≤255→
   jU (eN (c0 k u i).1 (c0 k u i).2) (b1 (bl k 32) a i).1 (b1 (bl k 32) a i).2
 | 0,_=>⟨rV,Ae,hu,rV⟩
 | i+1,hi=>by
   have c:=wZ k hu i (by omega)
   have hk:=CO k (t:=254 - i) (by omega)
   have f:=rT k u i
   show jU (eN (fA k (254 - i)) (nj u (eN (fA k (254 - i) ^^^ (c0 k u i).1) (c0 k u i).2))) _ _
   unfold b1
   rw [← hk]
   have hb:=r' k (254 - i)
   generalize fA k (254 - i)=b at*
   generalize (c0 k u i).1=w at*
   generalize (c0 k u i).2=s at*
   generalize (b1 (bl k 32) a i).1=P at*
   generalize (b1 (bl k 32) a i).2=Q at*
   have d:∀(s:F4) (P Q:P1),jU s P Q→jU (eN 1 s) Q P:=fun s P Q h=>⟨h.2.2.1,h.2.2.2,h.1,h.2.1⟩
   have e:∀s:F4,eN 0 s=s:=fun s=>by unfold eN;rw [if_neg (by decide)]
   have s1:∀s:F4,eN 1 (eN 1 s)=s:=fun s=>by unfold eN;rw [if_pos rfl,if_pos rfl]
   rcases (by omega:b=0∨b=1) with rfl | rfl
   · rw [if_neg (by decide),e,Nat.zero_xor]
     exact xU hu c
   · rw [if_pos rfl]
     have h2:jU (eN (1 ^^^ w) s) Q P:=by
       rcases (by omega:w=0∨w=1) with rfl | rfl
       · rw [e] at c;exact d _ _ _ c
       · have:=d _ _ _ c
         rw [s1] at this
         rw [show 1 ^^^ 1=0 by decide,e]
         exact this
     have h3:=d _ _ _ (xU hu h2)
     rw [Eu] at h3
     exact h3
def ek (K:Nat) (a:Fp):Fp:=(b1 K a 255).1.1*bw (b1 K a 255).1.2
theorem p7 (k u:Nat→BitVec 8):∃r,kq k u r∧bl r 32=(ek (bl (cu k) 32) (iM u)).val:=by
 have hu:=Gk u
 have a:=wZ (cu k) hu 255 (Nat.le_refl _)
 obtain ⟨j,b,d⟩:=CV a.2.1
 refine ⟨_,⟨_,yh k,_,Ey u,_,qL _,(c0 (cu k) (e9 u) 255).1,(c0 (cu k) (e9 u) 255).2.1,(c0 (cu k) (e9 u) 255).2.2.1,(c0 (cu k) (e9 u) 255).2.2.2.1,(c0 (cu k) (e9 u) 255).2.2.2.2,?_,_,_,_,_,yi _ (rT _ _ _) _,j,b,_,hV _ _,_,Eh _,rfl⟩,Bt (fq a.1 d)⟩
 generalize cu k=c
 generalize e9 u=v
 have h:=b7 (step:=nB c v) (x:=((c0 c v 255).1,(c0 c v 255).2.1,(c0 c v 255).2.2.1,(c0 c v 255).2.2.2.1,(c0 c v 255).2.2.2.2)) (fun i=>((c0 c v i).1,(254:Int) - (i:Int),(c0 c v i).2.1,(c0 c v i).2.2.1,(c0 c v i).2.2.2.1,(c0 c v i).2.2.2.2)) 255 (fun i hi=>by
   obtain ⟨t,f,g⟩:∃t:Nat,(254:Int) - (i:Int)=(t:Int)∧t=254 - i:=⟨254 - i,by omega,rfl⟩
   have d1:((t:Int).tdiv 8)=((t / 8:Nat):Int):=by rw [Int.tdiv_eq_ediv_of_nonneg (by omega)];omega
   have d2:((t:Int).tmod 8)=((t % 8:Nat):Int):=by rw [Int.tmod_eq_emod_of_nonneg (by omega)];omega
   have m:t / 8 < 32:=by omega
   unfold nB;dsimp only
   rw [f,d1,d2,if_pos (by omega),Int.toNat_natCast,Int.toNat_natCast]
   have e:(254:Int) - ((i+1:Nat):Int)=(t:Int) - 1:=by omega
   rw [e]
   have hk:(((c (t / 8)) >>> (t % 8)).toNat) &&& 1=fA c t:=rfl
   have hb:=r' c t
   have hl:=rT c v i
   rw [hk]
   have l:c0 c v (i+1)=(fA c t,nj v (eN (fA c t ^^^ (c0 c v i).1) (c0 c v i).2)):=by rw [g];rfl
   refine ⟨by omega,by omega,by omega,by omega,_,_,_,_,yi _ (CB hb hl) (c0 c v i).2,_,_,_,_,Gu _ (eN (fA c t ^^^ (c0 c v i).1) (c0 c v i).2),by omega,?_⟩
   rw [l];rfl) (by
   unfold nB;dsimp only
   rw [if_neg (by omega)])
 exact h
end Go.Proofs.YtjclppnbbpnfnaaGreatDoor
namespace Go.Proofs.YtjclppnbbpnfnaaGreatDoor
set_option linter.unusedSimpArgs false
set_option linter.unusedVariables false
set_option linter.unusedSectionVars false
open Go Go.LW
set_option maxRecDepth 10000
def NS (d:Fp):Prop:=∀s t:Fp,s*s=d*(t*t)→t=0
def On (d:Fp) (P:P1):Prop:=P.1^2+P.2^2=1+d*P.1^2*P.2^2
def eE (d:Fp) (P Q:P1):Fp:=d*P.1*Q.1*P.2*Q.2
def cg (d:Fp) (P Q:P1):P1:=((P.1*Q.2+P.2*Q.1)*bw (1+eE d P Q),(P.2*Q.2 - P.1*Q.1)*bw (1 - eE d P Q))
def eO:P1:=(0,1)
theorem mh (x:Fp):x+0=x:=by grind
theorem kb (x:Fp):x - 0=x:=by grind
theorem Fa (d:Fp):d*(0*0)=0:=by grind
theorem cK {x y:Fp} (hx:x≠0) (hy:y≠0):x*y≠0:=fun h=>(en h).elim hx hy
theorem kU:(2:Fp)≠0:=by
 intro h
 have:=congrArg Fin.val h
 exact absurd this (by decide +kernel)
theorem Fc {x y z:Fp} (a:z≠0) (h:x*z=y*z):x=y:=by
 have h1:(x - y)*z=0:=by grind
 rcases en h1 with h2 | h2
 · grind
 · exact absurd h2 a
theorem NS.ne {d:Fp} (h:NS d):d≠0:=fun e=>by
 have:=h 0 1 (by rw [e];grind)
 exact iX this
theorem NS.one {d:Fp} (h:NS d):1 - d≠0:=fun e=>by
 have:=h 1 1 (by grind)
 exact iX this
theorem NS.sq {d:Fp} (h:NS d) (y:Fp):1 - d*(y*y)≠0:=fun e=>by
 have:=h 1 y (by grind)
 rw [this] at e
 rw [Fa,kb] at e
 exact iX e
theorem Dg (d a b c f e:Fp) (g:a^2+b^2=1+d*a^2*b^2) (h:c^2+f^2=1+d*c^2*f^2) (he:e=d*a*c*b*f) (h1:e*e=1):
   (a+e*b)*(a+e*b)=d*((a*b*(c+f))*(a*b*(c+f)))∧(a - e*b)*(a - e*b)=d*((a*b*(c - f))*(a*b*(c - f))):=by
 subst he
 constructor <;> grind
theorem complete {d:Fp} (i:NS d) {P Q:P1} (j:On d P) (k:On d Q):eE d P Q*eE d P Q≠1:=by
 obtain ⟨b,c⟩:=P
 obtain ⟨a,e⟩:=Q
 intro h
 obtain ⟨h1,h2⟩:=Dg d b c a e _ j k rfl h
 have t1:=i _ _ h1
 have t2:=i _ _ h2
 have key:eE d (b,c) (a,e)=0→False:=fun l=>by
   rw [l] at h
   exact iX (by grind)
 have f:eE d (b,c) (a,e)=d*b*a*c*e:=rfl
 rcases en t1 with h3 | h3
 · exact key (by rw [f];grind)
 · rcases en t2 with m | m
   · exact key (by rw [f];grind)
   · have n:2*a=0:=by grind
     rcases en n with g | g
     · exact kU g
     · exact key (by rw [f,g];grind)
theorem lj {d:Fp} (a:NS d) {P Q:P1} (b:On d P) (c:On d Q):1+eE d P Q≠0:=fun h=>complete a b c (by
 generalize eE d P Q=e at *;grind)
theorem iO {d:Fp} (a:NS d) {P Q:P1} (b:On d P) (c:On d Q):1 - eE d P Q≠0:=fun h=>complete a b c (by
 generalize eE d P Q=e at *;grind)
theorem C4 (d a b c f e S C:Fp) (i:a^2+b^2=1+d*a^2*b^2) (j:c^2+f^2=1+d*c^2*f^2) (he:e=d*a*c*b*f) (g:S=a*f+b*c) (h:C=b*f-a*c):
   S^2*(1-e)^2+C^2*(1+e)^2=(1-e)^2*(1+e)^2+d*S^2*C^2:=by
 subst he g h
 grind
theorem mZ {u v i:Fp} (h:v*i=1):u*i*v=u:=by grind
theorem uo {a p:Fp} (h:a*p=1):a^2*p^2=1:=by grind
theorem zA (d e p q S C:Fp) (h:S^2*(1-e)^2+C^2*(1+e)^2=(1-e)^2*(1+e)^2+d*S^2*C^2) (hp:(1+e)*p=1) (hq:(1 - e)*q=1):(S*p)^2+(C*q)^2=1+d*(S*p)^2*(C*q)^2:=by
 have c:=uo hp
 have f:=uo hq
 clear hp hq
 generalize (1+e)^2=a at*
 generalize (1 - e)^2=b at*
 have h2:(S*p)^2+(C*q)^2=(S^2*b+C^2*a)*(p^2*q^2):=by
   have g:(S^2*b+C^2*a)*(p^2*q^2)=(S*p)^2*(b*q^2)+(C*q)^2*(a*p^2):=by clear h c f;grind
   rw [g,c,f];clear h c f g;grind
 have h3:(b*a+d*S^2*C^2)*(p^2*q^2)=1+d*(S*p)^2*(C*q)^2:=by
   have g:(b*a+d*S^2*C^2)*(p^2*q^2)=(b*q^2)*(a*p^2)+d*(S*p)^2*(C*q)^2:=by clear h c f h2;grind
   rw [g,c,f];clear h c f g h2;grind
 rw [h2,h,h3]
theorem qK {d:Fp} (c:NS d) {P Q:P1} (a:On d P) (b:On d Q):On d (cg d P Q):=
 zA d (eE d P Q) _ _ (P.1*Q.2+P.2*Q.1) (P.2*Q.2 - P.1*Q.1) (C4 d P.1 P.2 Q.1 Q.2 _ _ _ a b rfl rfl rfl) (inv_mul (lj c a b)) (inv_mul (iO c a b))
theorem Gw (d:Fp):On d eO:=by
 show (0:Fp)^2+1^2=1+d*0^2*1^2
 grind
theorem qG (d:Fp) (P Q:P1):cg d P Q=cg d Q P:=by
 have e:eE d P Q=eE d Q P:=by unfold eE;grind
 unfold cg
 rw [e]
 refine Prod.ext ?_ ?_
 · show _=_;grind
 · show _=_;grind
theorem inv_one:bw 1=1:=by
 have:=inv_mul iX
 grind
theorem mA (d:Fp) (P:P1):cg d P eO=P:=by
 have e:eE d P eO=0:=by unfold eE eO;grind
 unfold cg
 rw [e]
 have h1:bw (1+0:Fp)=1:=by rw [mh,inv_one]
 have h2:bw (1 - 0:Fp)=1:=by rw [kb,inv_one]
 rw [h1,h2]
 refine Prod.ext ?_ ?_
 · show (P.1*1+P.2*0)*1=P.1;grind
 · show (P.2*1 - P.1*0)*1=P.2;grind
theorem Ea (d c g a b h i e f S C j C':Fp) (o:c^2+g^2=1+d*c^2*g^2) (p:a^2+b^2=1+d*a^2*b^2) (q:h^2+i^2=1+d*h^2*i^2)
   (he:e=d*c*a*g*b) (hf:f=d*a*h*b*i) (k:S=c*b+g*a) (l:C=g*b-c*a) (m:j=a*i+b*h) (n:C'=b*i-a*h):
   (S*(1-e)*i+C*(1+e)*h)*((1-f)*(1+f)+d*j*C'*c*g)=(c*C'*(1+f)+g*j*(1-f))*((1-e)*(1+e)+d*S*C*h*i):=by
 subst he hf k l m n
 grind
theorem E0 (d c g a b h i e f S C j C':Fp) (o:c^2+g^2=1+d*c^2*g^2) (p:a^2+b^2=1+d*a^2*b^2) (q:h^2+i^2=1+d*h^2*i^2)
   (he:e=d*c*a*g*b) (hf:f=d*a*h*b*i) (k:S=c*b+g*a) (l:C=g*b-c*a) (m:j=a*i+b*h) (n:C'=b*i-a*h):
   (C*(1+e)*i - S*(1-e)*h)*((1-f)*(1+f) - d*j*C'*c*g)=(g*C'*(1+f) - c*j*(1-f))*((1-e)*(1+e) - d*S*C*h*i):=by
 subst he hf k l m n
 grind
theorem xN (d e i j S C a b:Fp) (hi:(1+e)*i=1) (c:(1 - e)*j=1):
   (1 - e)*(1+e)*(S*i*b+C*j*a)=S*(1-e)*b+C*(1+e)*a∧(1 - e)*(1+e)*(1+d*(S*i)*a*(C*j)*b)=(1-e)*(1+e)+d*S*C*a*b∧
   (1 - e)*(1+e)*(C*j*b - S*i*a)=C*(1+e)*b - S*(1-e)*a∧(1 - e)*(1+e)*(1 - d*(S*i)*a*(C*j)*b)=(1-e)*(1+e) - d*S*C*a*b:=by
 refine ⟨?_,?_,?_,?_⟩ <;> grind
theorem wI {A B c D1 d D2 m1 m2 X Y:Fp} (e:m1*A=c) (f:m2*B=d) {a b:Fp} (ha:m1*a=D1) (hb:m2*b=D2) (h1:m1≠0) (h2:m2≠0) (g:a≠0) (i:b≠0) (hX:X*a=A) (j:Y*b=B) (h:c*D2=d*D1):X=Y:=by
 have k:m1*a*(m2*b)≠0:=cK (cK h1 g) (cK h2 i)
 refine Fc k ?_
 subst e f ha hb hX j
 have l:X*(m1*a*(m2*b))=m1*(X*a)*(m2*b):=by grind
 have m:Y*(m1*a*(m2*b))=m2*(Y*b)*(m1*a):=by grind
 rw [l,m]
 exact h
theorem wb {d:Fp} (o:NS d) {P Q R:P1} (q:On d P) (p:On d Q) (r:On d R):cg d (cg d P Q) R=cg d P (cg d Q R):=by
 have G:=qK o q p
 have H:=qK o p r
 have p1:=lj o q p
 have m1:=iO o q p
 have t:=lj o p r
 have m2:=iO o p r
 have s:=lj o G r
 have m3:=iO o G r
 have p4:=lj o q H
 have m4:=iO o q H
 obtain ⟨h,k⟩:=P
 obtain ⟨c,g⟩:=Q
 obtain ⟨l,m⟩:=R
 have A:=Ea d h k c g l m _ _ _ _ _ _ q p r rfl rfl rfl rfl rfl rfl
 have B:=E0 d h k c g l m _ _ _ _ _ _ q p r rfl rfl rfl rfl rfl rfl
 have i1:=inv_mul p1
 have y:=inv_mul m1
 have i2:=inv_mul t
 have z:=inv_mul m2
 have i3:=inv_mul s
 have u:=inv_mul m3
 have i4:=inv_mul p4
 have v:=inv_mul m4
 have D:eE d (h,k) (c,g)=d*h*c*k*g:=rfl
 have E:eE d (c,g) (l,m)=d*c*l*g*m:=rfl
 have I:eE d (cg d (h,k) (c,g)) (l,m)=d*((h*g+k*c)*bw (1+eE d (h,k) (c,g)))*l*((k*g - h*c)*bw (1 - eE d (h,k) (c,g)))*m:=rfl
 have F:eE d (h,k) (cg d (c,g) (l,m))=d*h*((c*m+g*l)*bw (1+eE d (c,g) (l,m)))*k*((g*m - c*l)*bw (1 - eE d (c,g) (l,m))):=rfl
 have c1:∀a b:Fp,d*h*a*k*b=d*a*h*b*k:=fun a b=>by clear A B i1 y i2 z i3 u i4 v p1 m1 t m2 s m3 p4 m4 I F D E G H q p r o;grind
 rw [c1] at F
 obtain ⟨f1,f2,f3,f4⟩:=xN d (d*h*c*k*g) (bw (1+d*h*c*k*g)) (bw (1 - d*h*c*k*g)) (h*g+k*c) (k*g - h*c) l m (by rw [← D];exact i1) (by rw [← D];exact y)
 obtain ⟨g1,g2,g3,g4⟩:=xN d (d*c*l*g*m) (bw (1+d*c*l*g*m)) (bw (1 - d*c*l*g*m)) (c*m+g*l) (g*m - c*l) h k (by rw [← E];exact i2) (by rw [← E];exact z)
 rw [I] at s m3 i3 u
 rw [F] at p4 m4 i4 v
 rw [D] at p1 m1 i1 y s m3 i3 u
 rw [E] at t m2 i2 z p4 m4 i4 v
 have L:cg d (cg d (h,k) (c,g)) (l,m)=((((h*g+k*c)*bw (1+eE d (h,k) (c,g)))*m+((k*g - h*c)*bw (1 - eE d (h,k) (c,g)))*l)*bw (1+eE d (cg d (h,k) (c,g)) (l,m)),(((k*g - h*c)*bw (1 - eE d (h,k) (c,g)))*m - ((h*g+k*c)*bw (1+eE d (h,k) (c,g)))*l)*bw (1 - eE d (cg d (h,k) (c,g)) (l,m))):=rfl
 have R:cg d (h,k) (cg d (c,g) (l,m))=((h*((g*m - c*l)*bw (1 - eE d (c,g) (l,m)))+k*((c*m+g*l)*bw (1+eE d (c,g) (l,m))))*bw (1+eE d (h,k) (cg d (c,g) (l,m))),(k*((g*m - c*l)*bw (1 - eE d (c,g) (l,m))) - h*((c*m+g*l)*bw (1+eE d (c,g) (l,m))))*bw (1 - eE d (h,k) (cg d (c,g) (l,m)))):=rfl
 rw [L,R,I,F,D,E]
 clear L R I F q p r G H D E
 generalize d*h*c*k*g=e at*
 generalize d*c*l*g*m=f at*
 generalize bw (1+e)=i at*
 generalize bw (1 - e)=j at*
 generalize bw (1+f)=w at*
 generalize bw (1 - f)=x at*
 generalize h*g+k*c=S at*
 generalize k*g - h*c=C at*
 generalize c*m+g*l=n at*
 generalize g*m - c*l=C' at*
 have t1:=cK m1 p1
 have t2:=cK m2 t
 generalize bw (1+d*(S*i)*l*(C*j)*m)=M at*
 generalize bw (1 - d*(S*i)*l*(C*j)*m)=N at*
 generalize bw (1+d*(n*w)*h*(C'*x)*k)=J at*
 generalize bw (1 - d*(n*w)*h*(C'*x)*k)=K at*
 refine Prod.ext ?_ ?_
 · refine wI f1 g1 f2 g2 t1 t2 s p4 (mZ i3) ?_ ?_
   · have e:h*(C'*x)+k*(n*w)=n*w*k+C'*x*h:=by clear A B f1 f2 f3 f4 g1 g2 g3 g4 i1 y i2 z i3 u i4 v p1 m1 t m2 s m3 p4 m4 c1 t1 t2;grind
     show (h*(C'*x)+k*(n*w))*J*_=_
     rw [e];exact mZ i4
   · rw [A]
     have e:h*C'*(1+f)+k*n*(1 - f)=n*(1 - f)*k+C'*(1+f)*h:=by clear A B f1 f2 f3 f4 g1 g2 g3 g4 i1 y i2 z i3 u i4 v p1 m1 t m2 s m3 p4 m4 c1 t1 t2;grind
     rw [e]
 · refine wI f3 g3 f4 g4 t1 t2 m3 m4 (mZ u) ?_ ?_
   · have e:k*(C'*x) - h*(n*w)=C'*x*k - n*w*h:=by clear A B f1 f2 f3 f4 g1 g2 g3 g4 i1 y i2 z i3 u i4 v p1 m1 t m2 s m3 p4 m4 c1 t1 t2;grind
     show (k*(C'*x) - h*(n*w))*K*_=_
     rw [e];exact mZ v
   · rw [B]
     have e:k*C'*(1+f) - h*n*(1 - f)=C'*(1+f)*k - n*(1 - f)*h:=by clear A B f1 f2 f3 f4 g1 g2 g3 g4 i1 y i2 z i3 u i4 v p1 m1 t m2 s m3 p4 m4 c1 t1 t2;grind
     rw [e]
def cL (d:Fp):Nat→P1→P1
 | 0,_=>eO
 | n+1,P=>cg d (cL d n P) P
theorem iZ {d:Fp} (a:NS d) {P:P1} (b:On d P):∀n,On d (cL d n P)
 | 0=>Gw d
 | n+1=>qK a (iZ a b n) b
theorem uD (d:Fp) (P:P1):cL d 1 P=P:=by
 show cg d eO P=P
 rw [qG,mA]
theorem jW {d:Fp} (a:NS d) {P:P1} (b:On d P) (m:Nat):∀n,cL d (m+n) P=cg d (cL d m P) (cL d n P)
 | 0=>(mA d _).symm
 | n+1=>by
   show cg d (cL d (m+n) P) P=cg d (cL d m P) (cg d (cL d n P) P)
   rw [jW a b m n,wb a (iZ a b m) (iZ a b n) b]
theorem vC (d:Fp):∀n,cL d n eO=eO
 | 0=>rfl
 | n+1=>by show cg d (cL d n eO) eO=eO;rw [mA,vC d n]
theorem sv {d:Fp} (a:NS d) {P:P1} (b:On d P) (m:Nat):∀n,cL d (n*m) P=cL d n (cL d m P)
 | 0=>by rw [Nat.zero_mul];rfl
 | n+1=>by
   rw [Nat.succ_mul,jW a b,sv a b m n]
   rfl
end Go.Proofs.YtjclppnbbpnfnaaGreatDoor
namespace Go.Proofs.YtjclppnbbpnfnaaGreatDoor
set_option linter.unusedSimpArgs false
set_option linter.unusedVariables false
set_option linter.unusedSectionVars false
open Go Go.LW
set_option maxRecDepth 10000
theorem gf (x:Fp):x*0=0:=by grind
theorem w3:(-1:Fp)≠0:=by
 intro h
 have:=congrArg Fin.val h
 exact absurd this (by decide +kernel)
theorem zk (d a b c e:Fp):1 - d*c*(-a)*e*b=1+d*a*c*b*e:=by grind
theorem BF {a b c d:Fp}:d*b - c*(-a)=b*d+a*c:=by grind
theorem zC {y:Fp} (h:1+y=0):1 - y=2:=by
 have:1 - y=2 - (1+y):=by clear h;grind
 rw [this,h,kb]
theorem C9 {s i:Fp} (hs:s*s=1) (h:2*i=1):1=s*i*(s*(1+1)):=by
 have e:s*i*(s*(1+1))=(s*s)*(2*i):=by clear hs h;grind
 rw [e,hs,h];rfl
theorem A8 (x:Fp):0=x*(1 - 1):=by grind
theorem y7 {y:Fp} (a:1 - y=0) (h:1+y=0):(2:Fp)=0:=by
 have:(2:Fp)=(1 - y)+(1+y):=by clear a h;grind
 rw [this,a,h,mh]
theorem GB {b a i:Fp} (h:a*i=1):b=i*(b*a):=by grind
theorem CX (a i:Fp):a*i=i*a:=by grind
theorem dz (x a:Fp):((x+0)*(x+0) - (x - 0)*(x - 0))*a=0:=by grind
def a24:Fp:=a6 121665
def fu (d s:Fp):Prop:=NS d∧((s=1∧(1 - d)*(1+a24)=1)∨(s= -1∧(1 - d)*a24= -1))
def Lk (s:Fp) (S:P1) (P:P1):Prop:=∃l:Fp,l≠0∧S.1=l*(s*(1+P.2))∧S.2=l*(1 - P.2)
theorem fu.sq {d s:Fp} (h:fu d s):s*s=1:=by
 rcases h.2 with ⟨rfl,_⟩ | ⟨rfl,_⟩ <;> grind
theorem fu.ne {d s:Fp} (h:fu d s):s≠0:=fun e=>by
 have:=h.sq
 rw [e] at this
 rw [gf] at this
 exact iX this.symm
theorem n16:(16:Fp)≠0:=by
 intro h
 have:=congrArg Fin.val h
 exact absurd this (by decide +kernel)
theorem n8:(8:Fp)≠0:=by
 intro h
 have:=congrArg Fin.val h
 exact absurd this (by decide +kernel)
theorem B7 (d a l x y e:Fp) (E:x^2+y^2=1+d*x^2*y^2) (he:e=d*x*x*y*y) (ha:(1 - d)*(1+a)=1):
   ((l*(1*(1+y))+l*(1-y))*(l*(1*(1+y))+l*(1-y)))*((l*(1*(1+y)) - l*(1-y))*(l*(1*(1+y)) - l*(1-y)))=8*l*l*l*l*(1 - d*(y*y))*(1+a)*(1*((1 - e)+(y*y - x*x)))∧
   ((l*(1*(1+y))+l*(1-y))*(l*(1*(1+y))+l*(1-y)) - (l*(1*(1+y)) - l*(1-y))*(l*(1*(1+y)) - l*(1-y)))*((l*(1*(1+y))+l*(1-y))*(l*(1*(1+y))+l*(1-y))+a*((l*(1*(1+y))+l*(1-y))*(l*(1*(1+y))+l*(1-y)) - (l*(1*(1+y)) - l*(1-y))*(l*(1*(1+y)) - l*(1-y))))=8*l*l*l*l*(1 - d*(y*y))*(1+a)*((1 - e) - (y*y - x*x)):=by
 subst he
 constructor <;> grind
theorem Eb (d a l x y e:Fp) (E:x^2+y^2=1+d*x^2*y^2) (he:e=d*x*x*y*y) (ha:(1 - d)*a= -1):
   ((l*(-1*(1+y))+l*(1-y))*(l*(-1*(1+y))+l*(1-y)))*((l*(-1*(1+y)) - l*(1-y))*(l*(-1*(1+y)) - l*(1-y)))=8*l*l*l*l*(1 - d*(y*y))*a*(-1*((1 - e)+(y*y - x*x)))∧
   ((l*(-1*(1+y))+l*(1-y))*(l*(-1*(1+y))+l*(1-y)) - (l*(-1*(1+y)) - l*(1-y))*(l*(-1*(1+y)) - l*(1-y)))*((l*(-1*(1+y))+l*(1-y))*(l*(-1*(1+y))+l*(1-y))+a*((l*(-1*(1+y))+l*(1-y))*(l*(-1*(1+y))+l*(1-y)) - (l*(-1*(1+y)) - l*(1-y))*(l*(-1*(1+y)) - l*(1-y))))=8*l*l*l*l*(1 - d*(y*y))*a*((1 - e) - (y*y - x*x)):=by
 subst he
 constructor <;> grind
theorem scale {w v i u:Fp} (h:v*i=1):w*(v+u)=w*v*(1+u*i)∧w*(v - u)=w*v*(1 - u*i):=by
 constructor <;> grind
theorem w2 {s w v i u:Fp} (h:v*i=1):w*(s*(v+u))=w*v*(s*(1+u*i)):=by grind
theorem xy {d s:Fp} (hc:fu d s) {S P:P1} (a:On d P) (h:Lk s S P):Lk s (fW S) (cg d P P):=by
 obtain ⟨e,j⟩:=hc
 obtain ⟨l,hl,hX,f⟩:=h
 have hm:=iO e a a
 have hi:=inv_mul hm
 have hy:=e.sq P.2
 obtain ⟨X,Z⟩:=S
 obtain ⟨x,y⟩:=P
 simp only at hX f hy
 subst hX f
 have k:(cg d (x,y) (x,y)).2=(y*y - x*x)*bw (1 - eE d (x,y) (x,y)):=rfl
 unfold Lk
 rw [k]
 generalize bw (1 - eE d (x,y) (x,y))=i at*
 have g:eE d (x,y) (x,y)=d*x*x*y*y:=rfl
 rcases j with ⟨rfl,ha⟩ | ⟨rfl,ha⟩
 · obtain ⟨h1,h2⟩:=B7 d a24 l x y _ a g ha
   have b:(1+a24:Fp)≠0:=fun c=>by rw [c,gf] at ha;exact iX ha.symm
   refine ⟨8*l*l*l*l*(1 - d*(y*y))*(1+a24)*(1 - eE d (x,y) (x,y)),cK (cK (cK (cK (cK (cK (cK n8 hl) hl) hl) hl) hy) b) hm,?_,?_⟩
   · show _*_=_
     rw [h1];exact w2 hi
   · show _*_=_
     have:(a6 121665:Fp)=a24:=rfl
     rw [this,h2];exact (scale hi).2
 · obtain ⟨h1,h2⟩:=Eb d a24 l x y _ a g ha
   have b:(a24:Fp)≠0:=fun c=>by rw [c,gf] at ha;exact w3 ha.symm
   refine ⟨8*l*l*l*l*(1 - d*(y*y))*a24*(1 - eE d (x,y) (x,y)),cK (cK (cK (cK (cK (cK (cK n8 hl) hl) hl) hl) hy) b) hm,?_,?_⟩
   · show _*_=_
     rw [h1];exact w2 hi
   · show _*_=_
     have:(a6 121665:Fp)=a24:=rfl
     rw [this,h2];exact (scale hi).2
def fS (P:P1):P1:=(-P.1,P.2)
theorem vA {d:Fp} {P:P1} (h:On d P):On d (fS P):=by
 unfold On fS at*
 grind
theorem Ar (d x y:Fp) (E:x^2+y^2=1+d*x^2*y^2):1 - d*x*(-x)*y*y=y*y - x*(-x):=by grind
theorem mq (x:Fp):0*x=0:=by grind
theorem F1 {d:Fp} (b:NS d) {P:P1} (a:On d P):cg d P (fS P)=eO:=by
 have hm:=iO b a (vA a)
 obtain ⟨x,y⟩:=P
 have h:=inv_mul hm
 have e:eE d (x,y) (fS (x,y))=d*x*(-x)*y*y:=rfl
 have c:cg d (x,y) (fS (x,y))=((x*y+y*(-x))*bw (1+eE d (x,y) (fS (x,y))),(y*y - x*(-x))*bw (1 - eE d (x,y) (fS (x,y)))):=rfl
 rw [c]
 rw [e] at h ⊢
 have h2:(x*y+y*(-x):Fp)=0:=by clear h hm a b;grind
 rw [← Ar d x y a,h,h2,mq]
 rfl
theorem EP {d:Fp} (b:NS d) {P R:P1} (a:On d P) (c:On d R):cg d (cg d P R) (fS P)=R:=by
 rw [qG d P R,wb b c a (vA a),F1 b a,mA]
theorem Ag (d c a f b e:Fp) (g:c^2+a^2=1+d*c^2*a^2) (h:f^2+b^2=1+d*f^2*b^2) (he:e=d*c*f*a*b):
   ((1 - e)+(a*b - c*f))*((1+e)+(a*b+c*f))*((1 - d*(a*a))*(1 - d*(b*b)))=(1 - d)*(1 - d*((a*b)*(a*b)))*((a+b)*(a+b))∧
   ((1 - e) - (a*b - c*f))*((1+e) - (a*b+c*f))*((1 - d*(a*a))*(1 - d*(b*b)))=(1 - d)*(1 - d*((a*b)*(a*b)))*((a - b)*(a - b)):=by
 subst he
 constructor <;> grind
theorem wT (a b c d:Fp):((b*(1*(1+d)) - b*(1-d))*(a*(1*(1+c))+a*(1-c))+(b*(1*(1+d))+b*(1-d))*(a*(1*(1+c)) - a*(1-c)))*((b*(1*(1+d)) - b*(1-d))*(a*(1*(1+c))+a*(1-c))+(b*(1*(1+d))+b*(1-d))*(a*(1*(1+c)) - a*(1-c)))=16*(a*b)*(a*b)*((c+d)*(c+d))∧
   ((b*(1*(1+d)) - b*(1-d))*(a*(1*(1+c))+a*(1-c)) - (b*(1*(1+d))+b*(1-d))*(a*(1*(1+c)) - a*(1-c)))*((b*(1*(1+d)) - b*(1-d))*(a*(1*(1+c))+a*(1-c)) - (b*(1*(1+d))+b*(1-d))*(a*(1*(1+c)) - a*(1-c)))=16*(a*b)*(a*b)*((c - d)*(c - d)):=by
 constructor <;> grind
theorem t_ (a b c d:Fp):((b*(-1*(1+d)) - b*(1-d))*(a*(-1*(1+c))+a*(1-c))+(b*(-1*(1+d))+b*(1-d))*(a*(-1*(1+c)) - a*(1-c)))*((b*(-1*(1+d)) - b*(1-d))*(a*(-1*(1+c))+a*(1-c))+(b*(-1*(1+d))+b*(1-d))*(a*(-1*(1+c)) - a*(1-c)))=16*(a*b)*(a*b)*((c+d)*(c+d))∧
   ((b*(-1*(1+d)) - b*(1-d))*(a*(-1*(1+c))+a*(1-c)) - (b*(-1*(1+d))+b*(1-d))*(a*(-1*(1+c)) - a*(1-c)))*((b*(-1*(1+d)) - b*(1-d))*(a*(-1*(1+c))+a*(1-c)) - (b*(-1*(1+d))+b*(1-d))*(a*(-1*(1+c)) - a*(1-c)))=16*(a*b)*(a*b)*((c - d)*(c - d)):=by
 constructor <;> grind
theorem Fy {W e i j g b M u v s c sp h:Fp} (hs:s*s=1) (hi:(1 - e)*i=1) (k:(1+e)*j=1) (hg:g*b=1)
   (h1:((1 - e)+u)*((1+e)+v)*M=g*sp) (h2:((1 - e) - u)*((1+e) - v)*M=g*h) (a:c*(1 - v*j)=s*(1+v*j)):
   W*sp=W*((1 - e)*(1+e)*M)*b*(s*(1+v*j))*(s*(1+u*i))∧c*(W*h)=W*((1 - e)*(1+e)*M)*b*(s*(1+v*j))*(1 - u*i):=by
 have l:(1 - e)*(1+u*i)=(1 - e)+u:=by clear h1 h2 a hg k hs;grind
 have a2:(1+e)*(1+v*j)=(1+e)+v:=by clear h1 h2 a hg hi hs;grind
 have a3:(1 - e)*(1 - u*i)=(1 - e) - u:=by clear h1 h2 a hg k hs;grind
 have a4:(1+e)*(1 - v*j)=(1+e) - v:=by clear h1 h2 a hg hi hs;grind
 rw [← l,← a2] at h1
 rw [← a3,← a4] at h2
 clear l a2 a3 a4 hi k
 generalize 1+u*i=p at*
 generalize 1 - u*i=q at*
 generalize 1+v*j=r at*
 generalize 1 - v*j=t at*
 generalize 1 - e=m at*
 generalize 1+e=n at*
 have d:sp=m*p*(n*r)*M*b:=by rw [h1];clear h1 h2 a hs;grind
 have f:h=m*q*(n*t)*M*b:=by rw [h2];clear h1 h2 a hs;grind
 constructor
 · rw [d];clear d f h1 h2 a hg;grind
 · rw [f]
   have:c*(W*(m*q*(n*t)*M*b))=W*(m*q*n*M*b)*(c*t):=by clear d f h1 h2 a hg hs;grind
   rw [this,a];clear d f h1 h2 a hg hs this;grind
theorem Eg {d s i:Fp} (hc:fu d s) (y:i≠0) {S T P Q R:P1} (k:On d P) (l:On d Q) (z:cg d Q (fS P)=R) (j:i*(1 - R.2)=s*(1+R.2)) (A:Lk s S P) (B:Lk s T Q):
   Lk s (fb i S T) (cg d P Q):=by
 have f:=hc.1
 have C:=hc.sq
 have D:=hc.ne
 have hm:=iO f k l
 have hp:=lj f k l
 have E:=inv_mul hm
 have ip:=inv_mul hp
 have o:=f.sq P.2
 have p:=f.sq Q.2
 have m:(1 - d)*(1 - d*((P.2*Q.2)*(P.2*Q.2)))≠0:=cK f.one (f.sq _)
 have q:=inv_mul m
 obtain ⟨g,F,r,t⟩:=A
 obtain ⟨h,G,u,v⟩:=B
 obtain ⟨X1,K⟩:=S
 obtain ⟨L,M⟩:=T
 obtain ⟨c,a⟩:=P
 obtain ⟨e,b⟩:=Q
 simp only at r t u v o p m q
 subst r t u v
 have H:(cg d (c,a) (e,b)).2=(a*b - c*e)*bw (1 - eE d (c,a) (e,b)):=rfl
 have I:1 - eE d (e,b) (fS (c,a))=1+eE d (c,a) (e,b):=zk d c a e b
 have J:R.2=(a*b+c*e)*bw (1+eE d (c,a) (e,b)):=by
   rw [← z]
   show (b*a - e*(-c))*bw (1 - eE d (e,b) (fS (c,a)))=_
   rw [I,BF]
 obtain ⟨h1,h2⟩:=Ag d c a e b _ k l (show eE d (c,a) (e,b)=d*c*e*a*b from rfl)
 have w:1+R.2≠0:=fun x=>by
   rw [x] at j
   have h3:1 - R.2=2:=zC x
   rw [h3,gf] at j
   rcases en j with n | n
   · exact y n
   · exact kU n
 rw [J] at j w
 unfold Lk
 rw [H]
 obtain ⟨f1,f2⟩:=Fy (W:=16*(g*h)*(g*h)) C E ip q h1 h2 j
 have hl:=cK F G
 refine ⟨_,cK (cK (cK (cK (cK n16 hl) hl) (cK (cK hm hp) (cK o p))) (qu m)) (cK D w),?_,?_⟩
 · rw [← f1]
   rcases hc.2 with ⟨rfl,_⟩ | ⟨rfl,_⟩
   · exact (wT g h a b).1
   · exact (t_ g h a b).1
 · rw [← f2]
   rcases hc.2 with ⟨rfl,_⟩ | ⟨rfl,_⟩
   · exact congrArg (i* ·) (wT g h a b).2
   · exact congrArg (i* ·) (t_ g h a b).2
theorem tj {d s a:Fp} (hc:fu d s) (m:a≠0) {P:P1} (b:On d P) (e:a*(1 - P.2)=s*(1+P.2)) {K:Nat} (hK:K < 2 ^ 255):∀i,i≤255→
   Lk s (b1 K a i).1 (cL d (K / 2 ^ (255 - i)) P)∧Lk s (b1 K a i).2 (cL d (K / 2 ^ (255 - i)+1) P)
 | 0,_=>by
   have q:K / 2 ^ (255 - 0)=0:=Nat.div_eq_of_lt hK
   rw [q,Nat.zero_add,uD]
   have h2:=inv_mul kU
   refine ⟨⟨s*bw 2,cK hc.ne (qu kU),?_,?_⟩,?_⟩
   · show 1=s*bw 2*(s*(1+1))
     exact C9 hc.sq h2
   · show 0=s*bw 2*(1 - 1)
     exact A8 _
   · have n:1 - P.2≠0:=fun o=>by
       rw [o,gf] at e
       rcases en e.symm with h | h
       · exact hc.ne h
       · exact kU (y7 o h)
     have hi:=inv_mul n
     refine ⟨bw (1 - P.2),qu n,?_,?_⟩
     · show a=_
       rw [← e];exact GB hi
     · exact hi.symm.trans (CX _ _)
 | i+1,hi=>by
   obtain ⟨h1,h2⟩:=tj hc m b e hK i (by omega)
   have c:=hc.1
   have r:K / 2 ^ (255 - i)=K / 2 ^ (255 - (i+1)) / 2:=by
     rw [Nat.div_div_eq_div_mul,← Nat.pow_succ]
     congr 2;omega
   have t:254 - i=255 - (i+1):=by omega
   have u:b1 K a (i+1)=if K / 2 ^ (255 - (i+1)) % 2=1 then (fb a (b1 K a i).1 (b1 K a i).2,fW (b1 K a i).2) else (fW (b1 K a i).1,fb a (b1 K a i).1 (b1 K a i).2):=by
     rw [← t];rfl
   rw [r] at h1 h2
   rw [u]
   generalize K / 2 ^ (255 - (i+1))=k at*
   generalize (b1 K a i).1=S at*
   generalize (b1 K a i).2=T at*
   have g:=iZ c b (k / 2)
   have p:=iZ c b (k / 2+1)
   have v:cg d (cL d (k / 2+1) P) (fS (cL d (k / 2) P))=P:=EP c g b
   have f:=Eg hc m g p v e h1 h2
   rw [← jW c b] at f
   have j:=xy hc g h1
   rw [← jW c b] at j
   have l:=xy hc p h2
   rw [← jW c b] at l
   by_cases hb:k % 2=1
   · rw [if_pos hb]
     rw [show k / 2+(k / 2+1)=k by omega] at f
     rw [show k / 2+1+(k / 2+1)=k+1 by omega] at l
     exact ⟨f,l⟩
   · rw [if_neg hb]
     rw [show k / 2+k / 2=k by omega] at j
     rw [show k / 2+(k / 2+1)=k+1 by omega] at f
     exact ⟨j,f⟩
def uu (s:Fp) (P:P1):Fp:=s*(1+P.2)*bw (1 - P.2)
theorem A_ {s:Fp} {S P:P1} (h:Lk s S P):S.1*bw S.2=uu s P:=by
 obtain ⟨l,hl,hX,a⟩:=h
 rw [hX,a,El]
 unfold uu
 have:=inv_mul hl
 generalize bw l=i at*
 generalize bw (1 - P.2)=j
 generalize 1+P.2=t
 grind
theorem xS {d s a:Fp} (hc:fu d s) (b:a≠0) {P:P1} (c:On d P) (e:a*(1 - P.2)=s*(1+P.2)) {K:Nat} (hK:K < 2 ^ 255):ek K a=uu s (cL d K P):=by
 have h:=(tj hc b c e hK 255 (Nat.le_refl _)).1
 rw [show 255 - 255=0 by omega,Nat.pow_zero,Nat.div_one] at h
 exact A_ h
theorem uC (K:Nat):∀i,(b1 K 0 i).1.2=0
 | 0=>rfl
 | i+1=>by
   have a:=uC K i
   have b:b1 K 0 (i+1)=if K / 2 ^ (254 - i) % 2=1 then (fb 0 (b1 K 0 i).1 (b1 K 0 i).2,fW (b1 K 0 i).2) else (fW (b1 K 0 i).1,fb 0 (b1 K 0 i).1 (b1 K 0 i).2):=rfl
   rw [b]
   generalize b1 K 0 i=m at*
   by_cases hb:K / 2 ^ (254 - i) % 2=1
   · rw [if_pos hb]
     exact mq _
   · rw [if_neg hb]
     show (_ - _)*_=0
     rw [a]
     exact dz _ _
theorem ot (K:Nat):ek K 0=0:=by
 unfold ek
 rw [uC,inv_zero,gf]
end Go.Proofs.YtjclppnbbpnfnaaGreatDoor
namespace Go.Proofs.YtjclppnbbpnfnaaGreatDoor
set_option linter.unusedSimpArgs false
set_option linter.unusedVariables false
set_option linter.unusedSectionVars false
open Go Go.LW
set_option maxRecDepth 10000
def lA:Fp:=a6 (Num.pm aQ 256 2 ((aQ - 1) / 4))
theorem zE:lA*lA= -1:=by
 have h:lA*lA+1=0:=by decide +kernel
 grind
theorem te (x:Fp) (n:Nat):x ^ (2*n)=x ^ n*x ^ n:=by rw [show 2*n=n+n by omega,iE]
theorem xD {x:Fp} (h:x*x=1):x=1∨x= -1:=by
 have h1:(x - 1)*(x+1)=0:=by grind
 rcases en h1 with h2 | h2
 · exact .inl (by grind)
 · exact .inr (by grind)
def eK (x:Fp):Fp:=x ^ ((aQ - 1) / 2)
theorem rF (x y:Fp):eK (x*y)=eK x*eK y:=r_ _ _ _
theorem ym {x:Fp} (h:x≠0):eK x=1∨eK x= -1:=by
 refine xD ?_
 unfold eK
 rw [← te,show 2*((aQ - 1) / 2)=aQ - 1 by decide]
 exact rP h
theorem vv {x:Fp} (h:x≠0):eK (x*x)=1:=by
 rw [rF]
 rcases ym h with h1 | h1 <;> rw [h1] <;> grind
theorem tn:(-1:Fp)≠1:=by
 intro h
 have:=congrArg Fin.val h
 exact absurd this (by decide +kernel)
def g_ (x:Fp):Fp:=x ^ ((aQ+3) / 8)
theorem A6 (x:Fp):g_ x*g_ x=x*x ^ ((aQ - 1) / 4):=by
 unfold g_
 rw [← te,show 2*((aQ+3) / 8)=1+(aQ - 1) / 4 by decide,iE]
 grind
def gx (x:Fp):Prop:=x=0∨eK x=1
def mE (x:Fp):Fp:=if g_ x*g_ x=x then g_ x else g_ x*lA
theorem we {x:Fp} (h:gx x):mE x*mE x=x:=by
 unfold mE
 have hc:=A6 x
 by_cases hq:g_ x*g_ x=x
 · rw [if_pos hq];exact hq
 · rw [if_neg hq]
   have hi:=zE
   rcases h with h | h
   · exfalso;apply hq;rw [hc,h];grind
   · have b:x ^ ((aQ - 1) / 4)*x ^ ((aQ - 1) / 4)=1:=by
       rw [← te,show 2*((aQ - 1) / 4)=(aQ - 1) / 2 by decide];exact h
     rcases xD b with a | a
     · exfalso;apply hq;rw [hc,a];grind
     · rw [a] at hc
       generalize g_ x=c at*
       grind
theorem uP {x:Fp} (h:¬gx x):x≠0∧eK x= -1:=by
 have hx:x≠0:=fun e=>h (.inl e)
 exact ⟨hx,(ym hx).resolve_left fun e=>h (.inr e)⟩
theorem Aj {x y:Fp} (hx:¬gx x) (hy:y≠0):(gx (x*y)↔¬gx y):=by
 obtain ⟨b,c⟩:=uP hx
 have a:eK (x*y)= -1*eK y:=by rw [rF,c]
 constructor
 · intro h h2
   have d:eK (x*y)=1:=by
     rcases h with h | h
     · rcases en h with h | h
       · exact absurd h b
       · exact absurd h hy
     · exact h
   have f:eK y=1:=h2.resolve_left hy
   rw [a,f] at d
   exact tn (by grind)
 · intro h
   obtain ⟨_,e⟩:=uP h
   exact .inr (by rw [a,e];grind)
end Go.Proofs.YtjclppnbbpnfnaaGreatDoor
namespace Go.Proofs.YtjclppnbbpnfnaaGreatDoor
set_option linter.unusedSimpArgs false
set_option linter.unusedVariables false
set_option linter.unusedSectionVars false
open Go Go.LW
set_option maxRecDepth 10000
theorem nv (n:Nat):eK (a6 n)=a6 (Num.pm aQ 256 n ((aQ - 1) / 2)):=by
 unfold eK
 rw [← rH]
 exact mJ.2 (Num.j2 aQ 256 n ((aQ - 1) / 2) (by decide +kernel)).symm
theorem w8 {d:Fp} (h:eK d= -1):NS d:=by
 intro s t a
 refine Classical.byContradiction fun b=>?_
 have c:d≠0:=fun e=>by
   rw [e] at h
   exact w3 (h.symm.trans (zero_pow (by decide)))
 have hs:s≠0:=fun e=>by
   rw [e,gf] at a
   exact cK c (cK b b) a.symm
 have h1:=vv hs
 rw [a,rF,h,vv b] at h1
 exact tn ((f _).symm.trans h1)
where f (x:Fp):x*1=x:=by grind
def D1:Fp:=a6 20800338683988658368647408995589388737092878452977063003340006470870624536394
def D2:Fp:=a6 28692721048178265397853269683490922171210976843790175684556505508326675974058
def c1:Fp:=a6 53349024335595116287218880480235248380932224208407348260407321313250266849793
theorem rO:D1*121666=121665:=by decide +kernel
theorem u2:D2*121665=121666:=by decide +kernel
theorem EV:c1*c1=121666:=by decide +kernel
theorem uj:a24=121665:=by decide +kernel
theorem gw:NS D1:=w8 (by unfold D1;rw [nv];decide +kernel)
theorem F2:NS D2:=w8 (by unfold D2;rw [nv];decide +kernel)
theorem Aq:fu D1 1:=⟨gw,.inl ⟨rfl,by rw [uj];have:=rO;grind⟩⟩
theorem zJ:fu D2 (-1):=⟨F2,.inr ⟨rfl,by rw [uj];have:=u2;grind⟩⟩
theorem Ep (a:Fp):a*a+486662*a+1≠0:=fun h=>by
 have h1:(2*a+486662)*(2*a+486662)=D1*((4*121666)*(4*121666)):=by
   have:=rO
   grind
 have h2:=gw _ _ h1
 exact absurd h2 (by decide +kernel)
def h' (a:Fp):Fp:=a*(a*a+486662*a+1)
theorem EE {d a i r q j c:Fp} (g:d*121666=121665) (hc:c*c=121666) (hi:(a+1)*i=1) (hq:q=a*a+486662*a+1) (b:q*j=1) (f:r*r=a*q):
   (2*c*r*j)^2+((a - 1)*i)^2=1+d*(2*c*r*j)^2*((a - 1)*i)^2:=by
 have h1:(2*c*r*j)^2=4*121666*a*j:=by
   have e:(2*c*r*j)^2=4*(c*c)*(r*r)*(j*j):=by clear g hc hi hq b f;grind
   rw [e,hc,f]
   have h:4*121666*(a*q)*(j*j)=4*121666*a*j*(q*j):=by clear g hc hi hq b f e;grind
   rw [h,b];clear g hc hi hq b f e h;grind
 rw [h1]
 have h2:(1 - d*((a - 1)*i)^2)*121666=q*(i*i):=by
   subst hq
   clear h1 f b hc
   grind
 have h3:1 - ((a - 1)*i)^2=4*a*(i*i):=by clear h1 h2 f b hc g hq;grind
 have k:4*121666*a*j*(1 - d*((a - 1)*i)^2)=4*a*(i*i):=by
   have e:4*121666*a*j*(1 - d*((a - 1)*i)^2)=4*a*j*((1 - d*((a - 1)*i)^2)*121666):=by clear h1 h2 h3 f b hc g hq hi;grind
   rw [e,h2]
   have h:4*a*j*(q*(i*i))=4*a*(i*i)*(q*j):=by clear h1 h2 h3 f b hc g hq hi e;grind
   rw [h,b];clear h1 h2 h3 f b hc g hq hi e h;grind
 generalize ((a - 1)*i)^2=Y at*
 generalize 4*121666*a*j=X at*
 rw [← h3] at k
 clear h1 h2 h3 f b hc g hq hi
 grind
theorem Da {d a i r q j:Fp} (f:d*121665=121666) (hi:(a - 1)*i=1) (hq:q=a*a+486662*a+1) (b:q*j=1) (c:r*r=a*q*121665):
   (2*r*j)^2+((a+1)*i)^2=1+d*(2*r*j)^2*((a+1)*i)^2:=by
 have h1:(2*r*j)^2=4*121665*a*j:=by
   have e:(2*r*j)^2=4*(r*r)*(j*j):=by clear f hi hq b c;grind
   rw [e,c]
   have g:4*(a*q*121665)*(j*j)=4*121665*a*j*(q*j):=by clear f hi hq b c e;grind
   rw [g,b];clear f hi hq b c e g;grind
 rw [h1]
 have h2:(1 - d*((a+1)*i)^2)*121665= -(q*(i*i)):=by
   subst hq
   clear h1 c b
   grind
 have h3:1 - ((a+1)*i)^2= -(4*a*(i*i)):=by clear h1 h2 c b f hq;grind
 have h:4*121665*a*j*(1 - d*((a+1)*i)^2)= -(4*a*(i*i)):=by
   have e:4*121665*a*j*(1 - d*((a+1)*i)^2)=4*a*j*((1 - d*((a+1)*i)^2)*121665):=by clear h1 h2 h3 c b f hq hi;grind
   rw [e,h2]
   have g:4*a*j*(-(q*(i*i)))= -(4*a*(i*i))*(q*j):=by clear h1 h2 h3 c b f hq hi e;grind
   rw [g,b];clear h1 h2 h3 c b f hq hi e g;grind
 generalize ((a+1)*i)^2=Y at*
 generalize 4*121665*a*j=X at*
 rw [← h3] at h
 clear h1 h2 h3 c b f hq hi
 grind
theorem wU {n:Nat} (a:a6 n≠0) (h:eK (a6 n)= -1):¬gx (a6 n):=fun h1=>by
 rcases h1 with h1 | h1
 · exact a h1
 · exact tn (h.symm.trans h1)
theorem yO:¬gx (121665:Fp):=wU (n:=121665) (by decide +kernel) (by rw [nv];decide +kernel)
theorem zg:¬gx (h' (-1)):=by
 have e:h' (-1)=a6 486660:=by decide +kernel
 rw [e]
 exact wU (by decide +kernel) (by rw [nv];decide +kernel)
theorem Cq:gx (h' 1):=by
 have e:h' 1=a6 486664:=by decide +kernel
 rw [e]
 exact .inr (by rw [nv];decide +kernel)
theorem wW {c:Fp} (k:c≠0):∃d s P,fu d s∧On d P∧c*(1 - P.2)=s*(1+P.2)∧((d=D1∧s=1)∨(d=D2∧s= -1)):=by
 have hq:=Ep c
 have j:=inv_mul hq
 have hw:h' c≠0:=cK k hq
 have key:∀ {P:Prop},(gx (h' c)→P)→(¬gx (h' c)→P)→P:=fun a b=>(Classical.em _).elim a b
 refine key (fun h=>?_) (fun h=>?_)
 · have hu:c+1≠0:=fun e=>by
     have f:c= -1:=l e
     rw [f] at h
     exact zg h
   have hi:=inv_mul hu
   have g:=we h
   refine ⟨D1,1,(2*c1*mE (h' c)*bw (c*c+486662*c+1),(c - 1)*bw (c+1)),Aq,EE rO EV hi rfl j g,?_,.inl ⟨rfl,rfl⟩⟩
   show c*(1 - (c - 1)*bw (c+1))=1*(1+(c - 1)*bw (c+1))
   exact m hi
 · have hu:c - 1≠0:=fun e=>by
     have f:c=1:=n e
     rw [f] at h
     exact h Cq
   have hi:=inv_mul hu
   have g:=we ((Aj h (show (121665:Fp)≠0 from fun e=>yO (.inl e))).2 yO)
   refine ⟨D2,-1,(2*mE (h' c*121665)*bw (c*c+486662*c+1),(c+1)*bw (c - 1)),zJ,Da u2 hi rfl j g,?_,.inr ⟨rfl,rfl⟩⟩
   show c*(1 - (c+1)*bw (c - 1))= -1*(1+(c+1)*bw (c - 1))
   exact o hi
where
 l {c:Fp} (e:c+1=0):c= -1:=by grind
 n {c:Fp} (e:c - 1=0):c=1:=by grind
 m {c i:Fp} (h:(c+1)*i=1):c*(1 - (c - 1)*i)=1*(1+(c - 1)*i):=by grind
 o {c i:Fp} (h:(c - 1)*i=1):c*(1 - (c+1)*i)= -1*(1+(c+1)*i):=by grind
theorem Cx {s:Fp} {P:P1} (h:uu s P≠0):uu s P*(1 - P.2)=s*(1+P.2):=by
 have a:1 - P.2≠0:=fun e=>h (by unfold uu;rw [e,inv_zero,gf])
 exact mZ (inv_mul a)
def hh (P:P1):Prop:=P.1=0∧P.2*P.2=1
theorem sd {d s:Fp} (hc:fu d s) {P:P1} (b:On d P) (h:uu s P=0):hh P:=by
 have hy:P.2*P.2=1:=by
   rcases en h with h1 | h1
   · rcases en h1 with h2 | h2
     · exact absurd h2 hc.ne
     · exact c h2
   · by_cases h2:1 - P.2=0
     · exact e h2
     · exact absurd h1 (qu h2)
 refine ⟨?_,hy⟩
 have h2:P.1*P.1*(1 - d)=0:=vZ b hy
 rcases en h2 with h3 | h3
 · rcases en h3 with a | a <;> exact a
 · exact absurd h3 hc.1.one
where
 c {y:Fp} (h:1+y=0):y*y=1:=by grind
 e {y:Fp} (h:1 - y=0):y*y=1:=by grind
 vZ {d x y:Fp} (h:x^2+y^2=1+d*x^2*y^2) (hy:y*y=1):x*x*(1 - d)=0:=by grind
theorem CC {s:Fp} {P:P1} (h:hh P):uu s P=0:=by
 have h1:(1+P.2)*(1 - P.2)=0:=a h.2
 unfold uu
 rcases en h1 with h2 | h2
 · rw [h2,gf,mq]
 · rw [h2,inv_zero,gf]
where a {y:Fp} (h:y*y=1):(1+y)*(1 - y)=0:=by grind
theorem tc (d:Fp) {P Q:P1} (c:hh P) (f:hh Q):hh (cg d P Q):=by
 obtain ⟨g,a⟩:=P
 obtain ⟨h,b⟩:=Q
 obtain ⟨rfl,h1⟩:g=0∧a*a=1:=c
 obtain ⟨rfl,h2⟩:h=0∧b*b=1:=f
 have e:eE d (0,a) (0,b)=0:=ez d a b
 have i:cg d (0,a) (0,b)=((0*b+a*0)*bw (1+eE d (0,a) (0,b)),(a*b - 0*0)*bw (1 - eE d (0,a) (0,b))):=rfl
 rw [i,e,mh,kb,inv_one]
 exact ⟨zz a b,j h1 h2⟩
where
 ez (d a b:Fp):d*0*0*a*b=0:=by grind
 zz (a b:Fp):(0*b+a*0)*1=0:=by rw [mq,gf,mh,mq]
 j {a b:Fp} (h1:a*a=1) (h2:b*b=1):(a*b - 0*0)*1*((a*b - 0*0)*1)=1:=by grind
theorem Am:hh eO:=⟨rfl,by show (1:Fp)*1=1;rfl⟩
theorem two_mul (d:Fp) {P:P1} (a:hh P):∀n,hh (cL d n P)
 | 0=>Am
 | n+1=>tc d (two_mul d a n) a
theorem qI {d s f:Fp} (hc:fu d s) (j:f≠0) {P:P1} (g:On d P) (k:f*(1 - P.2)=s*(1+P.2)) {e c:Nat} (h1:e < 2 ^ 255) (h2:c < 2 ^ 255):
   ek e (ek c f)=uu s (cL d (e*c) P):=by
 have h:=hc.1
 rw [xS hc j g k h2,sv h g c e]
 have i:=iZ h g c
 generalize cL d c P=Q at*
 have key:∀ {R:Prop},(uu s Q=0→R)→(uu s Q≠0→R)→R:=fun a b=>(Classical.em _).elim a b
 refine key (fun hv=>?_) (fun hv=>?_)
 · rw [hv,ot,CC (two_mul d (sd hc i hv) e)]
 · exact xS hc hv i (Cx hv) h1
theorem EY {f g:Nat} (h1:f < 2 ^ 255) (h2:g < 2 ^ 255) (e:Fp):ek f (ek g e)=ek g (ek f e):=by
 have key:∀ {R:Prop},(e=0→R)→(e≠0→R)→R:=fun a b=>(Classical.em _).elim a b
 refine key (fun c=>?_) (fun c=>?_)
 · rw [c,ot,ot,ot]
 · obtain ⟨d,s,P,hc,h,hu,_⟩:=wW c
   rw [qI hc c h hu h1 h2,qI hc c h hu h2 h1,Nat.mul_comm]
theorem Fz:∀x:BitVec 8,((x &&& 127#8) ||| 64#8).toNat < 128∧64≤((x &&& 127#8) ||| 64#8).toNat:=by decide +kernel
theorem Dm:∀x:BitVec 8,(x &&& ~~~7#8).toNat % 8=0:=by decide +kernel
theorem oF (k:Nat→BitVec 8):bl (cu k) 32 < 2 ^ 255∧2 ^ 254≤bl (cu k) 32∧bl (cu k) 32 % 8=0:=by
 have c:cu k 31=(k 31 &&& 127#8) ||| 64#8:=by
   unfold cu;rw [fz,eR _ _ _ _ (by omega)]
 have d:cu k 0=k 0 &&& ~~~7#8:=by
   unfold cu;rw [eR _ _ _ _ (by omega),fz]
 have e:bl (cu k) 32=bl (cu k) 31+(cu k 31).toNat*256 ^ 31:=rfl
 have g:=mx (cu k) 31
 have f:=Fz (k 31)
 have h:=Dm (k 0)
 have hb:=nL (cu k) (q:=0) (by omega)
 rw [← c] at f
 rw [d,Nat.pow_zero,Nat.div_one] at hb
 refine ⟨?_,?_,by omega⟩ <;> rw [e]
 · generalize bl (cu k) 31=a at*
   generalize (cu k 31).toNat=b at*
   omega
 · generalize bl (cu k) 31=a at*
   generalize (cu k 31).toNat=b at*
   omega
theorem vg {r:Nat→BitVec 8} {x:Fp} (h:bl r 32=x.val):iM r=x:=by
 unfold iM
 rw [h,Nat.mod_eq_of_lt (Nat.lt_trans x.isLt C0)]
 exact x3 x
end Go.Proofs.YtjclppnbbpnfnaaGreatDoor
namespace Go.Proofs.YtjclppnbbpnfnaaGreatDoor
set_option linter.unusedSimpArgs false
set_option linter.unusedVariables false
set_option linter.unusedSectionVars false
open Go Go.LW
set_option maxRecDepth 10000
@[reducible] def eb {α:Type} (n:Nat) (k:Nat→α):α:=Nat.rec (k Nat.zero) (fun m _=>k (Nat.succ m)) n
theorem x4 {α:Type} (n:Nat) (k:Nat→α):eb n k=k n:=by cases n <;> rfl
theorem yk (a b:Nat):Nat.add a b=a+b:=rfl
theorem xW (a b:Nat):Nat.sub a b=a - b:=rfl
theorem xB (a b:Nat):Nat.mul a b=a*b:=rfl
theorem wy (a b:Nat):Nat.mod a b=a % b:=rfl
noncomputable def mK (p u K:Nat) (fin:Nat→Nat→Bool) (n:Nat):Nat→Nat→Nat→Nat→Bool:=
 Nat.rec (motive:=fun _=>Nat→Nat→Nat→Nat→Bool) (fun e i _ _=>fin e i) (fun n k e i l m=>
   eb (Nat.add e i) fun a=>eb (Nat.sub (Nat.add e p) i) fun b=>eb (Nat.add l m) fun c=>eb (Nat.sub (Nat.add l p) m) fun d=>
   eb (Nat.mod (Nat.mul d a) p) fun o=>eb (Nat.mod (Nat.mul c b) p) fun q=>
   eb (Nat.add o q) fun s=>eb (Nat.sub (Nat.add o p) q) fun t=>
   eb (Nat.mod (Nat.mul s s) p) fun r=>eb (Nat.mod (Nat.mul u (Nat.mod (Nat.mul t t) p)) p) fun z3=>
   eb (cond (Nat.beq (K / 2 ^ n % 2) 1) c a) fun g=>eb (cond (Nat.beq (K / 2 ^ n % 2) 1) d b) fun h=>
   eb (Nat.mod (Nat.mul g g) p) fun j=>eb (Nat.mod (Nat.mul h h) p) fun v=>eb (Nat.sub (Nat.add j p) v) fun f=>
   eb (Nat.mod (Nat.mul j v) p) fun w=>eb (Nat.mod (Nat.mul f (Nat.add j (Nat.mul 121665 f))) p) fun z2=>
   cond (Nat.beq (K / 2 ^ n % 2) 1) (k r z3 w z2) (k w z2 r z3)) n
theorem Fl (p u K:Nat) (fin:Nat→Nat→Bool) (n a b c d:Nat):mK p u K fin (n+1) a b c d=
   cond (Nat.beq (K / 2 ^ n % 2) 1)
     (mK p u K fin n ((((c+p - d)*(a+b) % p+(c+d)*(a+p - b) % p)*((c+p - d)*(a+b) % p+(c+d)*(a+p - b) % p)) % p) ((u*((((c+p - d)*(a+b) % p+p - (c+d)*(a+p - b) % p)*((c+p - d)*(a+b) % p+p - (c+d)*(a+p - b) % p)) % p)) % p)
       ((((c+d)*(c+d) % p)*((c+p - d)*(c+p - d) % p)) % p) ((((c+d)*(c+d) % p+p - (c+p - d)*(c+p - d) % p)*((c+d)*(c+d) % p+121665*((c+d)*(c+d) % p+p - (c+p - d)*(c+p - d) % p))) % p))
     (mK p u K fin n ((((a+b)*(a+b) % p)*((a+p - b)*(a+p - b) % p)) % p) ((((a+b)*(a+b) % p+p - (a+p - b)*(a+p - b) % p)*((a+b)*(a+b) % p+121665*((a+b)*(a+b) % p+p - (a+p - b)*(a+p - b) % p))) % p)
       ((((c+p - d)*(a+b) % p+(c+d)*(a+p - b) % p)*((c+p - d)*(a+b) % p+(c+d)*(a+p - b) % p)) % p) ((u*((((c+p - d)*(a+b) % p+p - (c+d)*(a+p - b) % p)*((c+p - d)*(a+b) % p+p - (c+d)*(a+p - b) % p)) % p)) % p)):=by
 cases hb:Nat.beq (K / 2 ^ n % 2) 1 with
 | true=>unfold mK;simp only [x4,yk,xW,xB,wy,hb,cond_true]
 | false=>unfold mK;simp only [x4,yk,xW,xB,wy,hb,cond_false]
theorem hR (m:Nat):a6 (m % aQ)=a6 m:=mJ.2 (Nat.mod_mod _ _)
theorem mD {a b:Nat} (h:b≤aQ):a6 (a+aQ - b)=a6 a - a6 b:=by
 have h1:a6 (a+aQ - b)+a6 b=a6 a:=by
   rw [← hA,show a+aQ - b+b=a+aQ by omega,hA,tZ];grind
 grind
theorem tF {x z:Nat} (e:z < aQ):(a6 ((((x+z)*(x+z) % aQ)*((x+aQ - z)*(x+aQ - z) % aQ)) % aQ),a6 ((((x+z)*(x+z) % aQ+aQ - (x+aQ - z)*(x+aQ - z) % aQ)*((x+z)*(x+z) % aQ+121665*((x+z)*(x+z) % aQ+aQ - (x+aQ - z)*(x+aQ - z) % aQ))) % aQ))=fW (a6 x,a6 z):=by
 have hp:0 < aQ:=by decide
 have c:a6 ((x+z)*(x+z) % aQ)=(a6 x+a6 z)*(a6 x+a6 z):=by rw [hR,fG,hA]
 have d:a6 ((x+aQ - z)*(x+aQ - z) % aQ)=(a6 x - a6 z)*(a6 x - a6 z):=by rw [hR,fG,mD (Nat.le_of_lt e)]
 have f:=Nat.mod_lt ((x+aQ - z)*(x+aQ - z)) hp
 generalize (x+z)*(x+z) % aQ=a at*
 generalize (x+aQ - z)*(x+aQ - z) % aQ=b at*
 have g:a6 (a+aQ - b)=a6 a - a6 b:=mD (Nat.le_of_lt f)
 unfold fW
 refine Prod.ext ?_ ?_
 · show a6 (a*b % aQ)=_
   rw [hR,fG,c,d]
 · show a6 ((a+aQ - b)*(a+121665*(a+aQ - b)) % aQ)=_
   rw [hR,fG,hA,fG 121665,g,c,d]
theorem E' {u c a d b:Nat} (i:a < aQ) (hq:b < aQ):
   (a6 ((((d+aQ - b)*(c+a) % aQ+(d+b)*(c+aQ - a) % aQ)*((d+aQ - b)*(c+a) % aQ+(d+b)*(c+aQ - a) % aQ)) % aQ),a6 ((u*((((d+aQ - b)*(c+a) % aQ+aQ - (d+b)*(c+aQ - a) % aQ)*((d+aQ - b)*(c+a) % aQ+aQ - (d+b)*(c+aQ - a) % aQ)) % aQ)) % aQ))=fb (a6 u) (a6 c,a6 a) (a6 d,a6 b):=by
 have hp:0 < aQ:=by decide
 have g:a6 ((d+aQ - b)*(c+a) % aQ)=(a6 d - a6 b)*(a6 c+a6 a):=by rw [hR,fG,hA,mD (Nat.le_of_lt hq)]
 have h:a6 ((d+b)*(c+aQ - a) % aQ)=(a6 d+a6 b)*(a6 c - a6 a):=by rw [hR,fG,hA,mD (Nat.le_of_lt i)]
 have j:=Nat.mod_lt ((d+b)*(c+aQ - a)) hp
 generalize (d+aQ - b)*(c+a) % aQ=e at*
 generalize (d+b)*(c+aQ - a) % aQ=f at*
 have k:a6 (e+aQ - f)=a6 e - a6 f:=mD (Nat.le_of_lt j)
 unfold fb
 refine Prod.ext ?_ ?_
 · show a6 ((e+f)*(e+f) % aQ)=_
   rw [hR,fG,hA,g,h]
 · show a6 ((u*((e+aQ - f)*(e+aQ - f) % aQ)) % aQ)=_
   rw [hR,fG,hR,fG,k,g,h]
theorem q8 (u K:Nat) (fin:Nat→Nat→Bool):∀n,n≤255→∀b a d c,a < aQ→c < aQ→(a6 b,a6 a)=(b1 K (a6 u) (255 - n)).1→(a6 d,a6 c)=(b1 K (a6 u) (255 - n)).2→
   ∃x z,mK aQ u K fin n b a d c=fin x z∧(a6 x,a6 z)=(b1 K (a6 u) 255).1
 | 0,_,b,a,d,c,_,_,h1,_=>⟨b,a,rfl,h1⟩
 | n+1,g,b,a,d,c,e,hq,h1,h2=>by
   have hp:0 < aQ:=by decide
   have hi:255 - n=(255 - (n+1))+1:=by omega
   have hb:254 - (255 - (n+1))=n:=by omega
   have hm:b1 K (a6 u) (255 - n)=if K / 2 ^ n % 2=1 then (fb (a6 u) (b1 K (a6 u) (255 - (n+1))).1 (b1 K (a6 u) (255 - (n+1))).2,fW (b1 K (a6 u) (255 - (n+1))).2) else (fW (b1 K (a6 u) (255 - (n+1))).1,fb (a6 u) (b1 K (a6 u) (255 - (n+1))).1 (b1 K (a6 u) (255 - (n+1))).2):=by
     rw [hi]
     show (if K / 2 ^ (254 - (255 - (n+1))) % 2=1 then _ else _)=_
     rw [hb]
   rw [← h1,← h2,← tF e,← tF hq,← E' e hq] at hm
   rw [Fl]
   cases f:Nat.beq (K / 2 ^ n % 2) 1 with
   | true=>
     rw [if_pos (Nat.eq_of_beq_eq_true f)] at hm
     rw [cond_true]
     exact q8 u K fin n (by omega) _ _ _ _ (Nat.mod_lt _ hp) (Nat.mod_lt _ hp) (by rw [hm]) (by rw [hm])
   | false=>
     rw [if_neg (Nat.ne_of_beq_eq_false f)] at hm
     rw [cond_false]
     exact q8 u K fin n (by omega) _ _ _ _ (Nat.mod_lt _ hp) (Nat.mod_lt _ hp) (by rw [hm]) (by rw [hm])
end Go.Proofs.YtjclppnbbpnfnaaGreatDoor
namespace Go.Proofs.YtjclppnbbpnfnaaGreatDoor.Num
set_option linter.unusedSimpArgs false
set_option linter.unusedVariables false
set_option linter.unusedSectionVars false
theorem FQ:b9 2551:=jf (m:=51) (by decide) (by decide +kernel) (by decide +kernel)
theorem AU:b9 1224481:=hW (a:=2) (f:=22) FQ (by decide +kernel) (by decide +kernel) (by decide +kernel) (by decide +kernel) (by decide +kernel) (by decide +kernel)
theorem Ct:b9 531581:=jf (m:=730) (by decide) (by decide +kernel) (by decide +kernel)
theorem Cl:b9 1257559732178653:=lg (a:=2) (f:=52) AU Ct (by decide +kernel) (by decide +kernel) (by decide +kernel) (by decide +kernel) (by decide +kernel) (by decide +kernel) (by decide +kernel) (by decide +kernel) (by decide +kernel)
theorem Ei:b9 4434155615661930479:=hW (a:=2) (f:=62) Cl (by decide +kernel) (by decide +kernel) (by decide +kernel) (by decide +kernel) (by decide +kernel) (by decide +kernel)
theorem zG:b9 172054593956031949258510691:=hW (a:=2) (f:=88) Ei (by decide +kernel) (by decide +kernel) (by decide +kernel) (by decide +kernel) (by decide +kernel) (by decide +kernel)
theorem zF:b9 19757330305831588566944191468367130476339:=hW (a:=2) (f:=134) zG (by decide +kernel) (by decide +kernel) (by decide +kernel) (by decide +kernel) (by decide +kernel) (by decide +kernel)
theorem BL:b9 276602624281642239937218680557139826668747:=hW (a:=2) (f:=138) zF (by decide +kernel) (by decide +kernel) (by decide +kernel) (by decide +kernel) (by decide +kernel) (by decide +kernel)
theorem C5:b9 7237005577332262213973186563042994240857116359379907606001950938285454250989:=hW (a:=2) (f:=254) BL (by decide +kernel) (by decide +kernel) (by decide +kernel) (by decide +kernel) (by decide +kernel) (by decide +kernel)
def lu:Nat:=2 ^ 252+27742317777372353535851937790883648493
theorem og:b9 lu:=C5
end Go.Proofs.YtjclppnbbpnfnaaGreatDoor.Num
namespace Go.Proofs.YtjclppnbbpnfnaaGreatDoor
set_option linter.unusedSimpArgs false
set_option linter.unusedVariables false
set_option linter.unusedSectionVars false
open Go Go.LW
set_option maxRecDepth 10000
theorem Cf {d:Fp} (a:NS d) {P:P1} (b:On d P) {m:Nat} (h:cL d m P=eO) (k:Nat):cL d (m*k) P=eO:=by
 rw [Nat.mul_comm,sv a b,h,vC]
theorem FX {d:Fp} (a:NS d) {P:P1} (b:On d P) (m n:Nat):cL d m P=eO→cL d n P=eO→cL d (Nat.gcd m n) P=eO:=by
 induction m,n using Nat.gcd.induction with
 | H0 n=>intro _ h;rw [Nat.gcd_zero_left];exact h
 | H1 m n hm c=>
   intro h1 h2
   rw [Nat.gcd_rec]
   refine c ?_ h1
   have h3:cL d n P=cg d (cL d (m*(n / m)) P) (cL d (n % m) P):=by rw [← jW a b,Nat.div_add_mod]
   rw [Cf a b h1,qG,mA] at h3
   rw [← h3];exact h2
theorem F6 {d:Fp} (a:NS d) {P:P1} (b:On d P) {l:Nat} (hl:Num.b9 l) (h:cL d l P=eO) (c:P≠eO) {n:Nat} (h2:cL d n P=eO):l ∣ n:=by
 have hg:=FX a b l n h h2
 rcases hl.2 _ (Nat.gcd_dvd_left l n) with e | e
 · rw [e,uD] at hg
   exact absurd hg c
 · rw [← e];exact Nat.gcd_dvd_right l n
theorem AS (d:Fp) {P:P1} (h:hh P):cg d P P=eO:=by
 obtain ⟨x,y⟩:=P
 obtain ⟨rfl,h1⟩:x=0∧y*y=1:=h
 have e:eE d (0,y) (0,y)=0:=tc.ez d y y
 have a:cg d (0,y) (0,y)=((0*y+y*0)*bw (1+eE d (0,y) (0,y)),(y*y - 0*0)*bw (1 - eE d (0,y) (0,y))):=rfl
 rw [a,e,mh,kb,inv_one,tc.zz,h1,gf,kb]
 rfl
theorem Dj {d s a:Fp} (hc:fu d s) (g:a≠0) {P:P1} (c:On d P) (i:a*(1 - P.2)=s*(1+P.2)) {K:Nat} (hK:K < 2 ^ 255) (j:(b1 K a 255).1.2=0):cL d K P=eO:=by
 have h:=(tj hc g c i hK 255 (Nat.le_refl _)).1
 rw [show 255 - 255=0 by omega,Nat.pow_zero,Nat.div_one] at h
 have k:=iZ hc.1 c K
 generalize cL d K P=Q at*
 obtain ⟨l,hl,hX,e⟩:=h
 rw [j] at e
 have hy:1 - Q.2=0:=(en e.symm).resolve_left hl
 have b:Q.2=1:=m hy
 have n:hh Q:=⟨?_,by rw [b];rfl⟩
 · exact Prod.ext n.1 b
 · have h2:Q.1*Q.1*(1 - d)=0:=sd.vZ k (by rw [b];rfl)
   rcases en h2 with h3 | h3
   · rcases en h3 with f | f <;> exact f
   · exact absurd h3 hc.1.one
where m {y:Fp} (h:1 - y=0):y=1:=by grind
theorem Dh {u K:Nat} (h:mK aQ u K (fun _ z=>Nat.beq (z % aQ) 0) 255 1 0 u 1=true):(b1 K (a6 u) 255).1.2=0:=by
 obtain ⟨x,z,h1,h2⟩:=q8 u K (fun _ z=>Nat.beq (z % aQ) 0) 255 (Nat.le_refl _) 1 0 u 1 (by decide) (by decide) rfl rfl
 rw [h] at h1
 rw [← h2]
 exact Fin.ext (Nat.eq_of_beq_eq_true h1.symm)
theorem CJ:(b1 Num.lu (a6 9) 255).1.2=0:=Dh (by decide +kernel)
theorem rI:a6 9≠0:=by decide +kernel
theorem FH {a s:Fp} (h:a*((1:Fp) - 1)=s*(1+1)):s*2=0:=by grind
theorem y5 {s a:Fp} {P:P1} (hs:s≠0) (b:a*(1 - P.2)=s*(1+P.2)):P≠eO:=fun e=>by
 rw [e] at b
 have h2:a*((1:Fp) - 1)=s*(1+1):=b
 have h3:s*2=0:=FH h2
 rcases en h3 with h | h
 · exact hs h
 · exact kU h
theorem tY {K:Nat} (h1:K < 2 ^ 255) (h2:2 ^ 254≤K) (h3:K % 8=0):¬Num.lu ∣ K:=fun h=>by
 have e:Num.lu=7237005577332262213973186563042994240857116359379907606001950938285454250989:=by decide +kernel
 obtain ⟨m,rfl⟩:∃m,K=8*m:=⟨K / 8,by omega⟩
 rcases Num.og.dvd h with a | a
 · have:=Nat.le_of_dvd (by decide) a
   omega
 · have:=Nat.le_of_dvd (by omega) a
   omega
theorem D5 {a b:Nat} (g:a < 2 ^ 255) (a2:2 ^ 254≤a) (a3:a % 8=0) (i:b < 2 ^ 255) (k:2 ^ 254≤b) (l:b % 8=0):ek a (ek b (a6 9))≠0:=by
 obtain ⟨d,s,P,hc,c,hu,_⟩:=wW rI
 rw [qI hc rI c hu g i]
 intro h
 have e:=hc.1
 have m:=sd hc (iZ e c _) h
 have h2:=AS d m
 rw [← jW e c] at h2
 have hO:=Dj hc rI c hu (K:=Num.lu) (by decide +kernel) CJ
 have j:=F6 e c Num.og hO (y5 hc.ne hu) h2
 rw [show a*b+a*b=2*(a*b) by omega] at j
 rcases Num.og.dvd j with h3 | h3
 · exact absurd (Nat.le_of_dvd (by decide) h3) (by decide +kernel)
 · rcases Num.og.dvd h3 with f | f
   · exact tY g a2 a3 f
   · exact tY i k l f
end Go.Proofs.YtjclppnbbpnfnaaGreatDoor
namespace Go.Proofs.YtjclppnbbpnfnaaGreatDoor
set_option linter.unusedSimpArgs false
set_option linter.unusedVariables false
set_option linter.unusedSectionVars false
open Go Go.LW
set_option maxRecDepth 10000
theorem tk (k:Nat→BitVec 8):∃r,nR k r∧bl r 32=(ek (bl (cu k) 32) (a6 9)).val:=by
 obtain ⟨r,h1,h2⟩:=p7 k (an (fun _=>0#8) 0 9#8)
 have a:iM (an (fun _=>0#8) 0 9#8)=a6 9:=by
   unfold iM
   rw [BZ];exact mJ.2 (by decide +kernel)
 rw [a] at h2
 exact ⟨r,⟨_,h1,rfl⟩,h2⟩
theorem pj (k:Nat→BitVec 8) (q:Nat):cu k q=if q=31 then (k 31 &&& 127#8) ||| 64#8 else if q=0 then k 0 &&& ~~~7#8 else k q:=by
 unfold cu
 rw [da]
 by_cases h:q=31
 · rw [if_pos h,if_pos h,eR _ _ _ _ (by omega)]
 · rw [if_neg h,if_neg h,da]
theorem Bg (k:Nat→BitVec 8) (q:Nat):cu (cu k) q=cu k q:=by
 have a:∀x:BitVec 8,(((x &&& 127#8) ||| 64#8) &&& 127#8) ||| 64#8=(x &&& 127#8) ||| 64#8:=by decide +kernel
 have a2:∀x:BitVec 8,(x &&& ~~~7#8) &&& ~~~7#8=x &&& ~~~7#8:=by decide +kernel
 have b:cu k 31=(k 31 &&& 127#8) ||| 64#8:=by rw [pj,if_pos rfl]
 have c:cu k 0=k 0 &&& ~~~7#8:=by rw [pj,if_neg (by omega),if_pos rfl]
 rw [pj (cu k),b,c,a,a2,pj k q]
 by_cases h:q=31
 · rw [if_pos h,if_pos h]
 · rw [if_neg h,if_neg h]
   by_cases h2:q=0
   · rw [if_pos h2,if_pos h2]
   · rw [if_neg h2,if_neg h2]
noncomputable def cX (k u:Nat→af):Nat→af:=(p7 k u).choose
theorem y' (k u:Nat→af):kq k u (cX k u):=(p7 k u).choose_spec.1
theorem tB (k u:Nat→af):bl (cX k u) 32=(ek (bl (cu k) 32) (iM u)).val:=(p7 k u).choose_spec.2
noncomputable def mb (k u:Nat→af):Nat:=if c9 32 (cX k u) (fun _=>0#8)=true then 70 else 0
theorem y8 (k u:Nat→af):fH k u (cX k u,mb k u):=by
 refine ⟨_,y' k u,?_⟩
 unfold mb
 by_cases h:c9 32 (cX k u) (fun _=>0#8)=true
 · rw [if_pos h,if_pos h]
 · rw [if_neg h,if_neg h]
theorem Ez {k u:Nat→af} (h:ek (bl (cu k) 32) (iM u)≠0):mb k u=0:=by
 unfold mb
 rw [if_neg]
 intro h3
 have:=xF.1 h3
 rw [tB,C_] at this
 exact h (Fin.ext this)
end Go.Proofs.YtjclppnbbpnfnaaGreatDoor
namespace Go.Proofs.YtjclppnbbpnfnaaGreatDoor
set_option linter.unusedSimpArgs false
set_option linter.unusedVariables false
set_option linter.unusedSectionVars false
open Go Go.LW
theorem kH (m:Nat) (F:Nat→af):c9 m F F=true:=pz.2 fun _ _=>rfl
def eB (k:Nat→af):Nat→af:=fT (dl 32 k) [2#8]
def ep (k:Nat→af):Nat→af:=fT (dl 32 k) [1#8]
theorem gh (k:Nat→af) (b:af):dy (dl 32 k) [[b]] (fT (dl 32 k) [b]):=by
 have:=lV (X:=dl 32 k) (P:= [[b]]) (by rw [ea];decide) (by simp) (by simp)
 simpa using this
theorem kx (k:Nat→af):jv k (eB k,ep k):=
 ⟨_,gh k _,_,gh k _,_,gh k _,_,gh k _,_,gh k _,_,gh k _,_,gh k _,_,gh k _,_,gh k _,_,gh k _,_,gh k _,_,gh k _,rfl⟩
def dG (k:Nat→af):Nat→(Nat→af)
 | 0=>k
 | i+1=>eB (dG k i)
def th:List af:=dl 10 (lit ([108#8,101#8,116#8,104#8,101#8,32#8,114#8,111#8,111#8,116#8]:List af))
def ke (r s:Nat→af):List af:=kZ (dl 32 (fT (dl 32 r) (dl 32 s))) th 64
def dM (r s:Nat→af):Nat→af:=bh (fun _=>0#8) 0 32 (lit (ke r s))
def dk (r s:Nat→af):Nat→af:=bh (fun _=>0#8) 0 32 (lit (aT (ke r s) 32 64))
theorem AF (r s:Nat→af):(ke r s).length=64:=vO _ _ _
theorem CH (r s:Nat→af):jj (dl 32 r) (dl 32 s) th 64 (ke r s,0):=
 uZ (n:=64) (by rw [ea];decide) (by rw [ea];decide) (by unfold th;rw [ea];decide) (by decide)
theorem qF (r s:Nat→af):k4 r s (dM r s,dk r s):=by
 have hl:=AF r s
 refine ⟨_,_,CH r s,by omega,?_⟩
 rw [hl];rfl
end Go.Proofs.YtjclppnbbpnfnaaGreatDoor
namespace Go.Proofs.YtjclppnbbpnfnaaGreatDoor
set_option linter.unusedSimpArgs false
set_option linter.unusedVariables false
set_option linter.unusedSectionVars false
open Go Go.LW
theorem oh (ps:List (List af)) {i:Nat} (h:i < ps.length):(ps.take (i+1)).flatten=(ps.take i).flatten ++ps.getD i []:=by
 rw [List.take_add_one,List.flatten_append,List.getD_eq_getElem?_getD,List.getElem?_eq_getElem h]
 simp
theorem oT (ps:List (List af)) (i:Nat):(ps.take i).flatten.length≤ps.flatten.length:=by
 conv=>rhs;rw [← List.take_append_drop i ps,List.flatten_append,List.length_append]
 exact Nat.le_add_right _ _
theorem EC (ps:List (List af)) (hl:ps.length≤1000) (h:ps.flatten.length≤1000000):kC ps ps.flatten:=by
 refine ⟨ps.flatten.length,b7 (fun i=>((ps.take i).flatten.length,i)) ps.length (fun i hi=>?_) ?_,⟨Nat.zero_le _,by omega⟩,ps.flatten,b7 (fun i=>((ps.take i).flatten,i)) ps.length (fun i hi=>?_) ?_,rfl⟩
 · have h1:=oh ps hi
   have h2:=oT ps (i+1)
   rw [h1,List.length_append] at h2
   unfold jt
   dsimp only
   rw [if_pos hi,h1,List.length_append]
   exact ⟨hi,by omega,by omega,rfl⟩
 · unfold jt
   dsimp only
   rw [if_neg (Nat.lt_irrefl _),List.take_length]
 · have h1:=oh ps hi
   have h2:=oT ps (i+1)
   rw [h1,List.length_append] at h2
   unfold jy
   dsimp only
   rw [if_pos hi,h1]
   exact ⟨hi,by omega,by omega,rfl⟩
 · unfold jy
   dsimp only
   rw [if_neg (Nat.lt_irrefl _),List.take_length]
theorem Ge (n:Nat) (h:n≤1000000):mX ((n:Nat):Int) []:=by
 unfold mX
 rw [if_neg (by omega)]
 refine ⟨[],⟨by omega,?_⟩,rfl⟩
 by_cases a:(0:Int) < ((n:Nat):Int) - (((0 - 0):Nat):Int)
 · rw [if_pos a]
   exact ⟨by omega,by omega,⟨Nat.le_refl _,Nat.zero_le _⟩,rfl⟩
 · rw [if_neg a]
theorem zU (ps:List (List af)) (hl:ps.length≤1000) (h:ps.flatten.length≤1000000):ox ps ps.flatten:=by
 refine ⟨ps.flatten.length,b7 (fun i=>((ps.take i).flatten.length,i)) ps.length (fun i hi=>?_) ?_,[],Ge _ h,ps.flatten,b7 (fun i=>((ps.take i).flatten,i)) ps.length (fun i hi=>?_) ?_,rfl⟩
 · have h1:=oh ps hi
   have h2:=oT ps (i+1)
   rw [h1,List.length_append] at h2
   unfold nX
   dsimp only
   rw [if_pos hi,h1,List.length_append]
   refine ⟨hi,by omega,?_⟩
   rw [if_neg (Nat.not_lt_zero _)]
   exact ⟨by omega,rfl⟩
 · unfold nX
   dsimp only
   rw [if_neg (Nat.lt_irrefl _),List.take_length]
 · have h1:=oh ps hi
   have h2:=oT ps (i+1)
   rw [h1,List.length_append] at h2
   unfold pf
   dsimp only
   rw [if_pos hi,h1]
   exact ⟨hi,by omega,by omega,rfl⟩
 · unfold pf
   dsimp only
   rw [if_neg (Nat.lt_irrefl _),List.take_length]
def four (n:BitVec 32):List af:= [((n >>> 24).setWidth 8),((n >>> 16).setWidth 8),((n >>> 8).setWidth 8),(n.setWidth 8)]
def jz (aN:Nat→af) (bT:BitVec 32) (key:Nat→af) (prev n:BitVec 32):List af:= [dl 16 aN,four bT,dl 32 key,four prev,four n].flatten
theorem yc (aN:Nat→af) (bT:BitVec 32) (key:Nat→af) (prev n:BitVec 32):(jz aN bT key prev n).length=60:=by
 unfold jz four
 simp [dl]
theorem uU (aN:Nat→af) (bT:BitVec 32) (key:Nat→af) (prev n:BitVec 32):mm aN bT key prev n (jz aN bT key prev n):=
 ⟨four bT,rfl,four prev,rfl,four n,rfl,_,EC _ (by exact (by decide:5≤1000)) (by have:=yc aN bT key prev n;unfold jz at this;omega),rfl⟩
def fO (bind aN:Nat→af) (bT:BitVec 32) (key:Nat→af) (prev n:BitVec 32) (data:List af):List af:= [dl 64 bind,jz aN bT key prev n,data].flatten
theorem lJ (bind aN:Nat→af) (bT:BitVec 32) (key:Nat→af) (prev n:BitVec 32) (data:List af):(fO bind aN bT key prev n data).length=124+data.length:=by
 unfold fO
 simp [yc,dl]
 omega
theorem pd {a b c d e f g:Nat→af} {i j k l m o:BitVec 32} {p q:Nat→af} {s:BitVec 32} (bind aN:Nat→af) (bT:BitVec 32) (key:Nat→af) (prev n:BitVec 32) {data:List af} (h:data.length≤1000):
   kP a b c d e f g i j k l m o p q s bind aN bT key prev n data (fO bind aN bT key prev n data):=
 ⟨_,uU aN bT key prev n,_,zU _ (by exact (by decide:3≤1000)) (by have:=lJ bind aN bT key prev n data;unfold fO at this;omega),rfl⟩
end Go.Proofs.YtjclppnbbpnfnaaGreatDoor
namespace Go.Proofs.YtjclppnbbpnfnaaGreatDoor
set_option linter.unusedSimpArgs false
set_option linter.unusedVariables false
set_option linter.unusedSectionVars false
open Go Go.LW
set_option maxRecDepth 10000
noncomputable def tH (k:Nat→af):Nat→af:=(tk k).choose
theorem tV (k:Nat→af):bl (tH k) 32=(ek (bl (cu k) 32) (a6 9)).val:=(tk k).choose_spec.2
theorem za {a b:Nat→af} (h:bl a 32=bl b 32):∀q,q < 32→a q=b q:=pz.1 (xF.2 h)
theorem CI {a b:Nat→af} (h:bl a 32=bl b 32):dl 32 a=dl 32 b:=qZ (za h)
def bQ (X:List af):Nat→af:=cu (lit X)
noncomputable def bY (X:List af):Nat→af:=tH (bQ X)
theorem uG {X:List af} (hX:X.length=32):k' X (bQ X,bY X,0):=by
 unfold k'
 rw [if_neg (fun h=>h hX)]
 exact ⟨by omega,_,yh _,_,(tk _).choose_spec.1,rfl⟩
theorem nK (X:List af):bl (cu (bQ X)) 32=bl (bQ X) 32:=qp 32 (fun q _=>Bg (lit X) q)
theorem wH (X Y:List af):bl (cX (bQ X) (bY Y)) 32=(ek (bl (bQ X) 32) (ek (bl (bQ Y) 32) (a6 9))).val:=by
 rw [tB,nK,vg (show bl (bY Y) 32=_ from tV (bQ Y)),nK]
theorem y4 (X Y:List af):mb (bQ X) (bY Y)=0:=by
 refine Ez ?_
 rw [nK,vg (show bl (bY Y) 32=_ from tV (bQ Y)),nK]
 obtain ⟨a,b,c⟩:=oF (lit X)
 obtain ⟨d,e,f⟩:=oF (lit Y)
 exact D5 a b c d e f
theorem x8 (X Y:List af):dl 32 (cX (bQ X) (bY Y))=dl 32 (cX (bQ Y) (bY X)):=by
 refine CI ?_
 rw [wH,wH]
 have:=EY (oF (lit X)).1 (oF (lit Y)).1 (a6 9)
 exact congrArg Fin.val this
theorem q_ (X Y:List af):fH (bQ X) (bY Y) (cX (bQ X) (bY Y),0):=by
 have:=y8 (bQ X) (bY Y)
 rwa [y4] at this
theorem Fx {r s s':Nat→af} (h:dl 32 s=dl 32 s'):dM r s=dM r s':=by unfold dM ke;rw [h]
theorem BX {r s s':Nat→af} (h:dl 32 s=dl 32 s'):dk r s=dk r s':=by unfold dk ke;rw [h]
def ew (s:Nat→af) (k:Int):List af:=dl 32 (an (an s 0 ((s 0) ^^^ (BitVec.ofInt 8 (8*(k.tmod 32))))) 1 (((an s 0 ((s 0) ^^^ (BitVec.ofInt 8 (8*(k.tmod 32))))) 1) ^^^ (BitVec.ofInt 8 (k.tdiv 32))))
theorem Ch (s:Nat→af) (k:Int):(ew s k).length=32:=ea _ _
theorem sQ (s:Nat→af) (k:Int) (hk:0≤k∧k≤1000):kT s k (bQ (ew s k),bY (ew s k),true):=by
 refine ⟨?_,_,_,_,uG (Ch s k),rfl⟩
 rw [Int.tdiv_eq_ediv_of_nonneg hk.1]
 omega
def dW:Nat→af:=an (fun _=>0#8) 0 (7#8)
theorem BD (ay aN bind:Nat→af) (X Y:List af):p_ ay aN bind (bQ X) (bY X) (bY Y) (aN,dM ay (cX (bQ X) (bY Y)),bQ X,bY X,bY Y,dk ay (cX (bQ X) (bY Y)),(fun _=>0#8),1#32,0#32,0#32,0#32,0#32,0#32,(fun _=>0#8),(fun _=>0#8),0#32,bind,0):=by
 refine ⟨_,_,q_ X Y,?_⟩
 rw [if_neg (by decide)]
 exact ⟨_,_,qF _ _,rfl⟩
theorem AR (ay aN:Nat→af):lr ay aN (.inr (aN,dM ay (cX (bQ (ew ay 0)) (bY (ew ay 1))),bQ (ew ay 0),bY (ew ay 0),bY (ew ay 1),dk ay (cX (bQ (ew ay 0)) (bY (ew ay 1))),(fun _=>0#8),1#32,0#32,0#32,0#32,0#32,0#32,(fun _=>0#8),(fun _=>0#8),0#32,dW,
   aN,ay,bQ (ew ay 1),bY (ew ay 1),(fun _=>0#8),(fun _=>0#8),(fun _=>0#8),0#32,0#32,0#32,0#32,0#32,0#32,(fun _=>0#8),(fun _=>0#8),0#32,dW,[],[],[],2,true)):=by
 refine ⟨_,_,_,sQ ay 0 (by decide),_,_,_,sQ ay 1 (by decide),?_⟩
 rw [if_pos rfl,if_pos rfl]
 refine ⟨_,_,_,_,_,_,_,_,_,_,_,_,_,_,_,_,_,_,BD ay aN dW (ew ay 0) (ew ay 1),?_⟩
 rw [if_neg (by decide),if_neg (by decide),if_pos (kH _ _)]
 exact ⟨_,_,_,_,_,_,_,_,_,_,_,_,_,_,_,_,_,rfl,rfl⟩
end Go.Proofs.YtjclppnbbpnfnaaGreatDoor
namespace Go.Proofs.YtjclppnbbpnfnaaGreatDoor
set_option linter.unusedSimpArgs false
set_option linter.unusedVariables false
set_option linter.unusedSectionVars false
open Go Go.LW
set_option maxRecDepth 10000
theorem zL {aN root a p4 peer sk rk:Nat→af} {own turns cQ cf prev db:BitVec 32} {h1 h2:Nat→af} {h3:BitVec 32} {bind:Nat→af} {counter:BitVec 32} {text data:List af}
   (b:text.length≤512) (c:data.length≤64) (ho:own≠0#32) (hs:cQ.toNat < counter.toNat) (d:db.toNat < counter.toNat):
   mi aN root a p4 peer sk rk own turns cQ cf prev db h1 h2 h3 bind counter text data (aN,root,a,p4,peer,eB sk,rk,own,turns,cQ+1#32,cf,prev,db+1#32,h1,h2,h3,bind,aN,own - 1#32,p4,prev,cQ,e4 (ep sk) (fO bind aN (own - 1#32) p4 prev cQ data) text,0):=by
 refine ⟨0,⟨false,?_,?_⟩,?_⟩
 · rw [if_neg (by omega)]
   exact (decide_eq_false (by omega)).symm
 · rw [if_neg (by decide),if_neg ho,if_neg (by omega),if_neg (by omega)]
 · rw [if_neg (by decide)]
   refine ⟨_,_,kx sk,_,pd bind aN (own - 1#32) p4 prev cQ (by omega),_,_,AX b (by rw [lJ];omega),?_⟩
   rw [if_neg (by decide)]
def eX (k:Nat):List af:= [(BitVec.ofInt 8 ((k:Nat):Int)),(BitVec.ofInt 8 (((k:Nat):Int).tdiv 256))]
theorem yK {k:Nat} (h:k≤1000000):jN ((k:Nat):Int) (eX k):=by
 refine ⟨?_,rfl⟩
 rw [Int.tdiv_eq_ediv_of_nonneg (by omega)]
 omega
def fB (text:List af):List af:=if 40 < text.length then aT text 0 40 else text
theorem ug (text:List af):(fB text).length≤40:=by
 unfold fB aT
 by_cases h:40 < text.length
 · rw [if_pos h];simp;omega
 · rw [if_neg h];omega
theorem xh {aN root b p4 peer sk rk:Nat→af} {own turns cQ cf prev db:BitVec 32} {h1 h2:Nat→af} {h3:BitVec 32} {bind:Nat→af}
   {c d e f g i j:Nat→af} {k l m n o p:BitVec 32} {q r:Nat→af} {s:BitVec 32} {t:Nat→af} {u v:List (BitVec 32×BitVec 32×(Nat→BitVec 8))}
   {a:List (Int×(Nat→BitVec 8)×BitVec 32×(Nat→BitVec 8)×BitVec 32×BitVec 32×List af×List af×List af)} {draw:Int} {text:List af}
   (ho:own≠0#32) (hs:cQ.toNat < 1000) (w:db.toNat < 1000) (hw:a.length≤1000):
   l8 aN root b p4 peer sk rk own turns cQ cf prev db h1 h2 h3 bind c d e f g i j k l m n o p q r s t u v a draw 0 text
     (true,aN,root,b,p4,peer,eB sk,rk,own,turns,cQ+1#32,cf,prev,db+1#32,h1,h2,h3,bind,c,d,e,f,g,i,j,k,l,m,n,o,p,q,r,s,t,u,v,
      a ++ [(1,aN,own - 1#32,p4,prev,cQ,e4 (ep sk) (fO bind aN (own - 1#32) p4 prev cQ (eX a.length)) (fB text),fB text,eX a.length)]):=by
 have hc:=ug text
 have x:=qn (ep sk) (fO bind aN (own - 1#32) p4 prev cQ (eX a.length)) (fB text)
 refine ⟨fB text,?_,?_⟩
 · unfold fB
   by_cases h:40 < text.length
   · rw [if_pos h,if_pos h];exact ⟨⟨by decide,by omega⟩,rfl⟩
   · rw [if_neg h,if_neg h]
 · rw [if_pos rfl]
   refine ⟨_,yK (by omega),_,_,_,_,_,_,_,_,_,_,_,_,_,_,_,_,_,_,_,_,_,_,_,_,zL (counter:=1000#32) (by omega) (by exact (by decide:2≤64)) ho hs w,?_⟩
   rw [if_neg ho]
   refine ⟨e4 (ep sk) (fO bind aN (own - 1#32) p4 prev cQ (eX a.length)) (fB text),false,?_,?_⟩
   · rw [if_neg (by decide)]
     refine ⟨by omega,?_⟩
     rw [if_neg (by omega),if_neg (fun h=>h rfl),if_neg (fun h=>h (by rw [BitVec.sub_add_cancel]))]
     exact ⟨rfl,(decide_eq_false (fun h=>h rfl)).symm⟩
   · rw [if_neg (by decide)]
     refine ⟨_,yK (by omega),⟨?_,?_⟩,rfl⟩
     · show (a.length+1)*128≤_;omega
     · show a.length+1 < _;omega
end Go.Proofs.YtjclppnbbpnfnaaGreatDoor
namespace Go.Proofs.YtjclppnbbpnfnaaGreatDoor
set_option linter.unusedSimpArgs false
set_option linter.unusedVariables false
set_option linter.unusedSectionVars false
open Go Go.LW
set_option maxRecDepth 10000
theorem b6 {c:Prop} [Decidable c] {t e:Prop} (h:c) (x:t):if c then t else e:=(if_pos h).symm ▸ x
theorem br {c:Prop} [Decidable c] {t e:Prop} (h:¬c) (x:e):if c then t else e:=(if_neg h).symm ▸ x
abbrev Ky:=Nat→BitVec 8
abbrev Wd:=BitVec 32
abbrev Sk:=BitVec 32×BitVec 32×Ky
abbrev Rn:=BitVec 32×Int×Int
def lY (a b:BitVec 32):Int:=if a.toNat < b.toNat then -1 else if b.toNat < a.toNat then 1 else 0
theorem u5 (a b:BitVec 32):lZ a b (lY a b):=by
 refine ⟨false,(decide_eq_false (by simp)).symm,false,(decide_eq_false (by simp)).symm,br (by decide) (br (by decide) ?_)⟩
 by_cases h1:a.toNat < b.toNat
 · exact b6 h1 (if_pos h1)
 · refine br h1 ?_
   by_cases h2:b.toNat < a.toNat
   · exact b6 h2 ((if_neg h1).trans (if_pos h2))
   · exact br h2 ((if_neg h1).trans (if_neg h2))
def l0 (a b:Int):Int:=if a≠0 then a else b
theorem Ec (a b:Int):pY [a,b] (l0 a b):=by
 have c:0 < [a,b].length:=Nat.zero_lt_succ _
 have d:1 < [a,b].length:=Nat.lt_succ_self _
 unfold l0
 by_cases ha:a≠0
 · rw [if_pos ha]
   exact ⟨none,.done (b6 c ⟨c,b6 ha ⟨rfl,rfl⟩⟩),fun h=>by cases h⟩
 · rw [if_neg ha]
   by_cases hb:b≠0
   · refine ⟨none,.more (s':=1) (b6 c ⟨c,br ha ⟨by decide,rfl⟩⟩) (.done (b6 d ⟨d,b6 hb ⟨rfl,rfl⟩⟩)),fun h=>by cases h⟩
   · have e:b=0:=by simpa using hb
     exact ⟨some (),.more (s':=1) (b6 c ⟨c,br ha ⟨by decide,rfl⟩⟩) (.more (s':=2) (b6 d ⟨d,br hb ⟨by decide,rfl⟩⟩) (.done (br (Nat.lt_irrefl _) rfl))),fun _=>e⟩
def gv (x y:Sk):Int:=l0 (lY x.1 y.1) (lY x.2.1 y.2.1)
theorem ln (x y:Sk):jO x.1 x.2.1 x.2.2 y.1 y.2.1 y.2.2 (gv x y):=
 ⟨_,u5 _ _,_,u5 _ _,_,Ec _ _,rfl⟩
def dA (x y:Sk):Prop:=x.1.toNat < y.1.toNat∨x.1.toNat=y.1.toNat∧x.2.1.toNat < y.2.1.toNat
theorem iH {x y:Sk}:gv x y < 0↔dA x y:=by
 unfold gv l0 lY dA
 by_cases h1:x.1.toNat < y.1.toNat
 · simp [h1]
 · by_cases h2:y.1.toNat < x.1.toNat
   · simp only [if_neg h1,if_pos h2];simp;omega
   · have h3:x.1.toNat=y.1.toNat:=by omega
     by_cases a:x.2.1.toNat < y.2.1.toNat
     · simp [h3,a]
     · by_cases b:y.2.1.toNat < x.2.1.toNat <;> simp [h3,a,b]
theorem FE {x y:Sk}:0≤gv x y↔¬dA x y:=by rw [← iH];omega
theorem zO {x y:Sk}:gv x y=0↔x.1=y.1∧x.2.1=y.2.1:=by
 rw [← BitVec.toNat_inj,← BitVec.toNat_inj]
 unfold gv l0 lY
 by_cases h1:x.1.toNat < y.1.toNat
 · simp [h1];omega
 · by_cases h2:y.1.toNat < x.1.toNat
   · simp only [if_neg h1,if_pos h2];simp;omega
   · have h3:x.1.toNat=y.1.toNat:=by omega
     by_cases a:x.2.1.toNat < y.2.1.toNat
     · simp [h3,a];omega
     · by_cases b:y.2.1.toNat < x.2.1.toNat
       · simp [h3,a,b];omega
       · simp [h3,a,b];omega
theorem uw:Sort.SWO (Proofs.ltOf gv) where
 irrefl x:=by simp only [Proofs.ltOf,decide_eq_false_iff_not,iH,dA];omega
 trans x y z h1 h2:=by
   simp only [Proofs.ltOf,decide_eq_true_eq,iH,dA] at *;omega
 ntrans x y z h1 h2:=by
   simp only [Proofs.ltOf,decide_eq_false_iff_not,iH,dA] at *;omega
theorem uB {E c:List Sk} (d:E.Pairwise dA) (hp:c.Perm E) (hs:c.Pairwise fun x y=>¬gv y x < 0):c=E:=by
 have f:E.Pairwise fun x y=>¬gv y x < 0:=d.imp fun {a b} h=>by
   rw [iH];unfold dA at *;omega
 refine hp.eq_of_pairwise (fun a b ha hb h1 h2=>?_) hs f
 rw [iH] at h1 h2
 have g:=hb
 have oH:a∈E:=hp.mem_iff.1 ha
 obtain ⟨i,hi,rfl⟩:=List.getElem_of_mem oH
 obtain ⟨j,e,rfl⟩:=List.getElem_of_mem hb
 rcases Nat.lt_trichotomy i j with h | h | h
 · exact absurd (List.pairwise_iff_getElem.1 d i j hi e h) h2
 · subst h;rfl
 · exact absurd (List.pairwise_iff_getElem.1 d j i e hi h) h1
theorem gd {l:List Sk} {i:Nat} (h:i < l.length):l.getD i (0#32,0#32,(fun _=>0#8))=l[i]:=by
 rw [List.getD_eq_getElem?_getD,List.getElem?_eq_getElem h];rfl
theorem tG {l:List Sk} (h:l.Pairwise dA) (hl:l.length≤1000000):qa l true:=by
 refine ⟨some (),b7 (fun i=>i+1) (l.length - 1) (fun i hi=>?_) (br (by omega) rfl),fun _=>rfl⟩
 have e:((((i+1:Nat):Int) - 1).toNat)=i:=by omega
 refine b6 (by omega) ⟨by omega,by omega,by omega,?_⟩
 rw [e,gd (show i < l.length by omega),gd (show i+1 < l.length by omega)]
 refine ⟨_,ln _ _,br ?_ ⟨by omega,rfl⟩⟩
 rw [FE]
 exact not_not_intro (List.pairwise_iff_getElem.1 h i (i+1) (by omega) (by omega) (by omega))
theorem u6 (k:Sk):∀ {l:List Sk},l.Pairwise dA→∃p,p≤l.length∧∀q (h:q < l.length),dA l[q] k↔q < p
 | [],_=>⟨0,Nat.le_refl _,fun q h=>absurd h (Nat.not_lt_zero _)⟩
 | x::l,h=>by
   obtain ⟨h1,h2⟩:=List.pairwise_cons.1 h
   obtain ⟨p,hp,hq⟩:=u6 k h2
   by_cases hx:dA x k
   · refine ⟨p+1,by simp;omega,fun q a=>?_⟩
     cases q with
     | zero=>simp [hx]
     | succ q=>simp only [List.getElem_cons_succ];rw [hq q (by simpa using a)];omega
   · refine ⟨0,Nat.zero_le _,fun q a=>⟨fun hl=>?_,fun h=>absurd h (Nat.not_lt_zero _)⟩⟩
     cases q with
     | zero=>exact absurd hl hx
     | succ q=>
       simp only [List.getElem_cons_succ] at hl
       have h3:=h1 _ (List.getElem_mem (by simpa using a:q < l.length))
       unfold dA at *;omega
theorem half {i j:Nat} (h:i+j < 2000000):((BitVec.ofNat 64 (i+j)) >>> 1).toNat=(i+j) / 2:=by
 rw [BitVec.toNat_ushiftRight,BitVec.toNat_ofNat,Nat.mod_eq_of_lt (by omega),Nat.shiftRight_eq_div_pow]
theorem wJ {l:List Sk} (hl:l.length≤1000000) (t n:Wd) {p:Nat} (hp:p≤l.length) (hq:∀q (h:q < l.length),dA l[q] (t,n,(fun _=>0#8))↔q < p):
   Iter (ou l t n (fun _=>0#8)) (0,l.length) p:=by
 suffices c:∃x,Iter (ou l t n (fun _=>0#8)) (0,l.length) x∧x=p by
   obtain ⟨x,hx,rfl⟩:=c
   exact hx
 refine jK (fun s=>s.1≤p∧p≤s.2∧s.2≤l.length) (fun x=>x=p) (fun s=>s.2 - s.1) (fun s hs=>?_) (l.length+1) (0,l.length) (by dsimp only;omega) ⟨Nat.zero_le _,hp,Nat.le_refl _⟩
 obtain ⟨i,j⟩:=s
 dsimp only at hs
 by_cases b:i < j
 · have e:=half (show i+j < 2000000 by omega)
   have hm:(i+j) / 2 < l.length:=by omega
   refine .inr ?_
   by_cases a:dA (l[(i+j) / 2]) (t,n,(fun _=>0#8))
   · refine ⟨((i+j) / 2+1,j),?_,?_,?_⟩
     · refine b6 b ⟨by omega,by omega,by omega,?_⟩
       rw [e,gd hm]
       exact ⟨_,ln (l[(i+j) / 2]) (t,n,(fun _=>0#8)),b6 (iH.2 a) ⟨by omega,rfl⟩⟩
     · have:=(hq _ hm).1 a
       exact ⟨by dsimp only;omega,hs.2.1,hs.2.2⟩
     · dsimp only;omega
   · refine ⟨(i,(i+j) / 2),?_,?_,?_⟩
     · refine b6 b ⟨by omega,by omega,by omega,?_⟩
       rw [e,gd hm]
       exact ⟨_,ln (l[(i+j) / 2]) (t,n,(fun _=>0#8)),br (by rw [iH];exact a) rfl⟩
     · have:¬(i+j) / 2 < p:=fun h=>a ((hq _ hm).2 h)
       exact ⟨hs.1,by dsimp only;omega,by dsimp only;omega⟩
     · dsimp only;omega
 · exact .inl ⟨i,br b rfl,by omega⟩
theorem Bj {l:List Sk} (h:l.Pairwise dA) (hl:l.length≤1000000) {t n:Wd} (ho:∀x∈l,¬(x.1=t∧x.2.1=n)):∃p,ni l t n (p,false):=by
 obtain ⟨p,hp,hq⟩:=u6 (t,n,(fun _=>0#8)) h
 by_cases a:p < l.length
 · refine ⟨p,p,false,⟨p,wJ hl t n hp hq,b6 a ⟨a,?_⟩⟩,rfl⟩
   rw [gd a]
   refine ⟨_,ln l[p] (t,n,(fun _=>0#8)),?_⟩
   rw [decide_eq_false]
   intro b
   exact ho _ (List.getElem_mem a) (zO.1 b)
 · exact ⟨p,p,false,⟨p,wJ hl t n hp hq,br a rfl⟩,rfl⟩
end Go.Proofs.YtjclppnbbpnfnaaGreatDoor
namespace Go.Proofs.YtjclppnbbpnfnaaGreatDoor
set_option linter.unusedSimpArgs false
set_option linter.unusedVariables false
set_option linter.unusedSectionVars false
open Go Go.LW
set_option maxRecDepth 10000
section machine
variable {s2 s3 s4 s5 s6 s7 s8:Ky} {s9 s10 s11 s12 s13 s14:Wd} {s15 s16:Ky} {s17:Wd} {s18:Ky} {l:List Sk} {l20 l21 l22 l23 l24:Int} {l25:Wd} {h26:Ky} {h27:Wd} {h28:Ky} {h29 h30:Wd} {m31:List Rn}
variable {body data:List af} {draw:Ky}
theorem DN:ki s2 s3 s4 s5 s6 s7 s8 s9 s10 s11 s12 s13 s14 s15 s16 s17 s18 l l20 l21 l22 l23 l24 l25 h26 h27 h28 h29 h30 m31
   (decide (h27.toNat+1 < s10.toNat∨h27.toNat+1=s10.toNat∧h30.toNat < s12.toNat)):=by
 unfold ki
 by_cases h1:h27.toNat+1 < s10.toNat
 · exact b6 h1 (decide_eq_true (.inl h1))
 · refine br h1 ?_
   by_cases h2:h27.toNat+1=s10.toNat
   · refine b6 h2 ?_
     by_cases h3:h30.toNat < s12.toNat
     · rw [decide_eq_true h3,decide_eq_true (.inr ⟨h2,h3⟩)]
     · rw [decide_eq_false h3,decide_eq_false (by omega)]
   · exact br h2 (decide_eq_false (by omega))
theorem uT (a:h27.toNat < s10.toNat) (b:h30.toNat < l25.toNat) (c:h27.toNat < l25.toNat) (hk:c9 32 h28 s6=true) (hs:((h30.toNat:Nat):Int) - ((s12.toNat:Nat):Int)≤l22):
   nx s2 s3 s4 s5 s6 s7 s8 s9 s10 s11 s12 s13 s14 s15 s16 s17 s18 l l20 l21 l22 l23 l24 l25 h26 h27 h28 h29 h30 m31
     (0,l,[(h27,((s12.toNat:Nat):Int),((h30.toNat:Nat):Int))]):=
 br (by omega) (br (by omega) (br (by omega) (b6 (fun h=>by rw [h] at a;omega) (b6 hk (br (by omega) rfl)))))
theorem AZ (a:h27=0#32) (h1:s10=0#32) (b:h30.toNat < l25.toNat) (hp:h29=0#32) (hs:((h30.toNat:Nat):Int)≤l22) (ho:s9.toNat < l25.toNat):
   nx s2 s3 s4 s5 s6 s7 s8 s9 s10 s11 s12 s13 s14 s15 s16 s17 s18 l l20 l21 l22 l23 l24 l25 h26 h27 h28 h29 h30 []
     (0,l,[(h27,0,((h30.toNat:Nat):Int))]):=by
 subst a h1 hp
 refine br (by omega) (br (by omega) (br (by show¬_≤(0#32).toNat;show¬_≤0;omega) (br (fun h=>h rfl) ⟨true,b6 rfl (br (fun h=>h rfl) (br (by omega) (br (by omega) rfl))),fun _=>⟨[],br (by decide) rfl,by simp,rfl⟩⟩)))
def fF (m:List Rn):Int:=(m.map fun r=>r.2.2 - r.2.1).sum
theorem gr {m:List Rn} {i:Nat} (h:i < m.length):m.getD i (0#32,(0:Int),(0:Int))=m[i]:=by
 rw [List.getD_eq_getElem?_getD,List.getElem?_eq_getElem h];rfl
theorem wD (m:List Rn) {i:Nat} (h:i < m.length):fF (m.take (i+1))=fF (m.take i)+(m[i].2.2 - m[i].2.1):=by
 unfold fF
 rw [List.take_add_one,List.getElem?_eq_getElem h,List.map_append,List.sum_append]
 simp
theorem ri (m:List Rn) (hb:∀r∈m,0≤r.2.1∧r.2.1≤r.2.2∧r.2.2≤5000000000):∀i,i≤m.length→0≤fF (m.take i)∧fF (m.take i)≤5000000000*i
 | 0,_=>by simp [fF]
 | i+1,hi=>by
   have h1:=ri m hb i (by omega)
   have h2:=hb _ (List.getElem_mem (show i < m.length by omega))
   rw [wD m (by omega)]
   omega
theorem Gm (hm:m31.length≤1000) (hb:∀r∈m31,0≤r.2.1∧r.2.1≤r.2.2∧r.2.2≤5000000000):Iter (sL m31) (0,0) (fF m31):=by
 refine b7 (fun i=>(fF (m31.take i),i)) m31.length (fun i hi=>?_) (br (Nat.lt_irrefl _) (by rw [List.take_length]))
 have h1:=ri m31 hb i (by omega)
 have h2:=hb _ (List.getElem_mem hi)
 refine b6 hi ⟨hi,?_,?_,by omega,?_⟩
 · rw [gr hi];omega
 · rw [gr hi];omega
 · rw [gr hi,wD m31 hi]
theorem xe (d:l.Pairwise dA) (hm:m31.length≤1000) (hb:∀r∈m31,0≤r.2.1∧r.2.1≤r.2.2∧r.2.2≤5000000000) (hl:l.length≤1000000) (b:fF m31=0∨fF m31+l.length≤l23)
   (e:∀r∈m31 ++ [(h27,((h30.toNat:Nat):Int),(((h30.toNat+1):Nat):Int))],∀k:Int,r.2.1≤k→k < r.2.2→∀x∈l,¬(x.1=r.1∧x.2.1=BitVec.ofInt 32 k)):
   mn s2 s3 s4 s5 s6 s7 s8 s9 s10 s11 s12 s13 s14 s15 s16 s17 s18 l l20 l21 l22 l23 l24 l25 h26 h27 h28 h29 h30 m31 (0,l,m31):=by
 have h1:=ri m31 hb m31.length (Nat.le_refl _)
 rw [List.take_length] at h1
 have f:∀r∈m31 ++ [(h27,((h30.toNat:Nat):Int),(((h30.toNat+1):Nat):Int))],0≤r.2.1∧r.2.1≤r.2.2∧r.2.2≤5000000000:=by
   intro r b
   rcases List.mem_append.1 b with h | h
   · exact hb r h
   · have:=h30.isLt
     rw [List.mem_singleton.1 h];dsimp only;omega
 refine ⟨_,Gm hm hb,true,?_,fun _=>⟨?_,some (),?_,fun _=>rfl⟩⟩
 · by_cases c:0 < fF m31
   · exact b6 c ⟨by omega,br (by omega) rfl⟩
   · exact br c rfl
 · simp only [List.length_singleton];omega
 · generalize a:m31 ++ [(h27,((h30.toNat:Nat):Int),(((h30.toNat+1):Nat):Int))]=M at*
   have g:M.length=m31.length+1:=by rw [← a];simp
   refine b7 (fun i=>i) M.length (fun i hi=>?_) ?_
   · unfold p'
     rw [a]
     refine b6 hi ⟨hi,some (),?_,fun _=>⟨by omega,rfl⟩⟩
     have h2:=f _ (List.getElem_mem hi)
     have h3:=e _ (List.getElem_mem hi)
     rw [gr hi]
     have key:=b7 (step:=mz l h27 h30 m31 i (Sum.inl (i+1)) (0,l,m31)) (x:=some ()) (fun j=>M[i].2.1+(j:Int)) (M[i].2.2 - M[i].2.1).toNat (fun j m=>?_) ?_
     · simpa using key
     · unfold mz
       rw [a,gr hi]
       obtain ⟨p,hp⟩:=Bj d hl (h3 (M[i].2.1+(j:Int)) (by omega) (by omega))
       exact b6 (by omega) ⟨p,false,hp,br (by decide) ⟨by omega,congrArg Sum.inl (by omega)⟩⟩
     · unfold mz
       rw [a,gr hi]
       exact br (by omega) rfl
   · unfold p'
     rw [a]
     exact br (Nat.lt_irrefl _) rfl
def dH (t:Wd) (lo:Int) (key:Ky) (n:Nat):List Sk:=(List.range n).map fun i:Nat=>(t,BitVec.ofInt 32 (lo+(i:Int)),ep (dG key i))
theorem sY (t:Wd) (lo:Int) (key:Ky) (n:Nat):(dH t lo key n).length=n:=by simp [dH]
theorem EI (t:Wd) (lo:Int) (key:Ky) (n:Nat):dH t lo key (n+1)=dH t lo key n ++ [(t,BitVec.ofInt 32 (lo+(n:Int)),ep (dG key n))]:=by
 unfold dH;rw [List.range_succ,List.map_append];rfl
theorem qU {key:Ky} {t:Wd} {lo hi:Int} (a:0≤lo∧lo≤hi∧hi≤5000000000) (hl:l.length+(hi - lo).toNat≤1000000):
   lE s2 s3 s4 s5 s6 s7 s8 s9 s10 s11 s12 s13 s14 s15 s16 s17 s18 l l20 l21 l22 l23 l24 l25 h26 h27 h28 h29 h30 m31 key t lo hi
     (dG key (hi - lo).toNat,l ++dH t lo key (hi - lo).toNat,m31):=by
 refine ⟨_,_,?_,rfl⟩
 have:=b7 (step:=rm t hi) (x:=(dG key (hi - lo).toNat,l ++dH t lo key (hi - lo).toNat)) (fun i=>(lo+(i:Int),dG key i,l ++dH t lo key i)) (hi - lo).toNat (fun i hi=>?_) ?_
 · simpa [dH,dG] using this
 · refine b6 (by omega) ⟨_,_,kx _,?_,by omega,?_⟩
   · simp only [List.length_append,sY,List.length_singleton];omega
   · rw [EI,List.append_assoc]
     have e:lo+((i+1:Nat):Int)=lo+(i:Int)+1:=by omega
     rw [e];rfl
 · exact br (by omega) rfl
theorem Df {z1 z2:Ky} (h1:fH s4 h28 (z1,0)) (h2:fH (bQ (dl 32 draw)) h28 (z2,0)):
   nM s2 s3 s4 s5 s6 s7 s8 s9 s10 s11 s12 s13 s14 s15 s16 s17 s18 l l20 l21 l22 l23 l24 l25 h26 h27 h28 h29 h30 m31 draw
     (0,dM (dM s3 z1) z2,bQ (dl 32 draw),bY (dl 32 draw),h28,dk (dM s3 z1) z2,dk s3 z1,s9+1#32,s10+1#32,0#32,s11):=
 ⟨_,_,h1,br (by decide) ⟨_,_,qF _ _,_,_,_,uG (ea _ _),br (by decide) ⟨_,_,h2,br (by decide) ⟨_,_,qF _ _,rfl⟩⟩⟩⟩
end machine
end Go.Proofs.YtjclppnbbpnfnaaGreatDoor
namespace Go.Proofs.YtjclppnbbpnfnaaGreatDoor
set_option linter.unusedSimpArgs false
set_option linter.unusedVariables false
set_option linter.unusedSectionVars false
open Go Go.LW
set_option maxRecDepth 10000
section machine
variable {s2 s3 s4 s5 s6 s7 s8:Ky} {s9 s10 s11 s12 s13 s14:Wd} {s15 s16:Ky} {s17:Wd} {s18:Ky} {l:List Sk} {l20 l21 l22 l23 l24:Int} {l25:Wd} {h26:Ky} {h27:Wd} {h28:Ky} {h29 h30:Wd} {m31:List Rn}
variable {body data:List af} {draw:Ky}
theorem q4 {k:Ky} {d s:List af} (a:32≤s.length) (h1:s.length≤544) (b:d.length≤65535) {x:List af} {e:Nat} (h:fc k d s=(x,e)):jb k d s (x,e):=by
 rw [← h];exact DC a h1 b
theorem C6 {t:Wd} {lo hi:Int} (a:h27≠s10) (b:0≤lo∧lo≤hi∧hi≤5000000000) (hl:l.length+(hi - lo).toNat≤1000000) (d:data.length≤64) (hb:32≤body.length∧body.length≤544)
   (c:(l ++dH t lo s8 (hi - lo).toNat).Pairwise dA) {text:List af} (ho:fc (ep (dG s8 (hi - lo).toNat)) (fO s18 h26 h27 h28 h29 h30 data) body=(text,0)):
   k6 s2 s3 s4 s5 s6 s7 s8 s9 s10 s11 s12 s13 s14 s15 s16 s17 s18 l l20 l21 l22 l23 l24 l25 h26 h27 h28 h29 h30 [(t,lo,hi)] body data draw
     (text,0,s3,s4,s5,s6,s7,eB (dG s8 (hi - lo).toNat),s9,s10,s11,h30+1#32,s13,l ++dH t lo s8 (hi - lo).toNat,[(t,lo,hi)]):=by
 refine ⟨by simp,by simp,true,s3,s4,s5,s6,s7,s8,s9,s10,s11,s13,l,[(t,lo,hi)],br a ⟨rfl,rfl,rfl,rfl,rfl,rfl,rfl,rfl,rfl,rfl,rfl,rfl,rfl⟩,fun _=>?_⟩
 refine ⟨_,_,_,qU (t:=t) (lo:=lo) (hi:=hi) b hl,_,_,kx _,_,pd s18 h26 h27 h28 h29 h30 (by omega),text,0,q4 hb.1 hb.2 (by rw [lJ];omega) ho,br (by decide) ⟨?_,gv,ln,uw,fun e h1 h2=>?_⟩⟩
 · rw [List.length_append,sY];omega
 · rw [uB c h1 h2]
theorem DV {t:Wd} {lo hi:Int} (a:h27≠s10) (b:0≤lo∧lo≤hi∧hi≤5000000000) (hl:l.length+(hi - lo).toNat≤1000000) (c:data.length≤64) {e:Nat} (he:e≠0)
   (ho:jb (ep (dG s8 (hi - lo).toNat)) (fO s18 h26 h27 h28 h29 h30 data) body ([],e)):
   k6 s2 s3 s4 s5 s6 s7 s8 s9 s10 s11 s12 s13 s14 s15 s16 s17 s18 l l20 l21 l22 l23 l24 l25 h26 h27 h28 h29 h30 [(t,lo,hi)] body data draw
     ([],e,s3,s4,s5,s6,s7,s8,s9,s10,s11,s12,s13,l ++dH t lo s8 (hi - lo).toNat,[(t,lo,hi)]):=by
 refine ⟨by simp,by simp,true,s3,s4,s5,s6,s7,s8,s9,s10,s11,s13,l,[(t,lo,hi)],br a ⟨rfl,rfl,rfl,rfl,rfl,rfl,rfl,rfl,rfl,rfl,rfl,rfl,rfl⟩,fun _=>?_⟩
 exact ⟨_,_,_,qU (t:=t) (lo:=lo) (hi:=hi) b hl,_,_,kx _,_,pd s18 h26 h27 h28 h29 h30 (by omega),[],e,ho,b6 he rfl⟩
theorem Cy {t:Wd} {lo hi:Int} {z1 z2:Ky} (heq:h27=s10) (a:0≤lo∧lo≤hi∧hi≤5000000000) (hl:l.length+(hi - lo).toNat≤1000000) (c:data.length≤64) (hb:32≤body.length∧body.length≤544)
   (h1:fH s4 h28 (z1,0)) (h2:fH (bQ (dl 32 draw)) h28 (z2,0))
   (b:(l ++dH t lo (dk s3 z1) (hi - lo).toNat).Pairwise dA) {text:List af} (ho:fc (ep (dG (dk s3 z1) (hi - lo).toNat)) (fO s18 h26 h27 h28 h29 h30 data) body=(text,0)):
   k6 s2 s3 s4 s5 s6 s7 s8 s9 s10 s11 s12 s13 s14 s15 s16 s17 s18 l l20 l21 l22 l23 l24 l25 h26 h27 h28 h29 h30 [(t,lo,hi)] body data draw
     (text,0,dM (dM s3 z1) z2,bQ (dl 32 draw),bY (dl 32 draw),h28,dk (dM s3 z1) z2,eB (dG (dk s3 z1) (hi - lo).toNat),s9+1#32,s10+1#32,0#32,h30+1#32,s11,l ++dH t lo (dk s3 z1) (hi - lo).toNat,[(t,lo,hi)]):=by
 refine ⟨by simp,by simp,true,_,_,_,_,_,_,_,_,_,_,_,_,b6 heq ⟨l,[(t,lo,hi)],br (by simp) ⟨rfl,rfl⟩,_,_,_,_,_,_,_,_,_,_,_,Df h1 h2,br (by decide) ⟨rfl,rfl,rfl,rfl,rfl,rfl,rfl,rfl,rfl,rfl,rfl,rfl,rfl⟩⟩,fun _=>?_⟩
 refine ⟨_,_,_,qU (t:=t) (lo:=lo) (hi:=hi) a hl,_,_,kx _,_,pd s18 h26 h27 h28 h29 h30 (by omega),text,0,q4 hb.1 hb.2 (by rw [lJ];omega) ho,br (by decide) ⟨?_,gv,ln,uw,fun d h1 h2=>?_⟩⟩
 · rw [List.length_append,sY];omega
 · rw [uB b h1 h2]
end machine
structure RS where
 aN:Ky
 root:Ky
 e0:Ky
 ff:Ky
 peer:Ky
 sk:Ky
 rk:Ky
 own:Wd
 turns:Wd
 cQ:Wd
 cf:Wd
 prev:Wd
 db:Wd
 h1:Ky
 h2:Ky
 h3:Wd
 bind:Ky
structure Hd where
 aN:Ky
 bT:Wd
 key:Ky
 prev:Wd
 n:Wd
abbrev zK:Ky:=fun _=>0#8
def ya:RS:=⟨zK,zK,zK,zK,zK,zK,zK,0#32,0#32,0#32,0#32,0#32,0#32,zK,zK,0#32,zK⟩
def eG (b:Ky) (h:Hd) (data:List af):List af:=fO b h.aN h.bT h.key h.prev h.n data
theorem wF (b:Ky) (h:Hd) (data:List af):(eG b h data).length=124+data.length:=lJ _ _ _ _ _ _ _
def k5 (s:RS) (l:List Sk) (skip b_:Int) (cE:Wd) (h:Hd) (body data:List af) (draw:Ky) (s':RS) (a:List Sk) (text:List af) (e:Nat):Prop:=
 l3 s.aN s.root s.e0 s.ff s.peer s.sk s.rk s.own s.turns s.cQ s.cf s.prev s.db s.h1 s.h2 s.h3 s.bind l 0 0 skip b_ 0 cE h.aN h.bT h.key h.prev h.n body data draw
   (s'.aN,s'.root,s'.e0,s'.ff,s'.peer,s'.sk,s'.rk,s'.own,s'.turns,s'.cQ,s'.cf,s'.prev,s'.db,s'.h1,s'.h2,s'.h3,s'.bind,a,text,e)
def l' (s:RS) (l:List Sk) (skip b_:Int) (cE:Wd) (h:Hd) (body data:List af) (draw:Ky) (text:List af) (e:Nat) (s':RS) (a:List Sk) (m':List Rn):Prop:=
 nD s.aN s.root s.e0 s.ff s.peer s.sk s.rk s.own s.turns s.cQ s.cf s.prev s.db s.h1 s.h2 s.h3 s.bind l 0 0 skip b_ 0 cE h.aN h.bT h.key h.prev h.n [] body data draw
   (text,e,s'.root,s'.e0,s'.ff,s'.peer,s'.sk,s'.rk,s'.own,s'.turns,s'.cQ,s'.cf,s'.prev,a,m')
structure iU (s:RS) (l:List Sk) (skip b_:Int) (h:Hd) (data:List af):Prop where
 skip:0≤skip∧skip≤64
 b_:0≤b_∧b_≤256
 data:data.length≤64
 ord:l.Pairwise dA
 len:l.length≤1000
 
theorem sT {s s':RS} {l a:List Sk} {skip b_:Int} {cE:Wd} {h:Hd} {body data:List af} {draw:Ky} {text:List af} {m':List Rn} (ha:iU s l skip b_ h data) (hs:c9 16 h.aN s.aN=true)
   (b:l' s l skip b_ cE h body data draw text 0 s' a m'):k5 s l skip b_ cE h body data draw { s' with aN:=s.aN,db:=s.db,h1:=zK,h2:=zK,h3:=0#32,bind:=s.bind } a text 0:=by
 have h1:=ha.skip;have h2:=ha.b_;have h3:=ha.data;have c:=ha.len
 refine ⟨0,⟨false,br (by omega) (br (by omega) (br (by omega) (decide_eq_false (by omega)).symm)),br (by decide) (br (by omega) ⟨true,tG ha.ord (by omega),b6 rfl (b6 hs rfl)⟩)⟩,br (by decide) ⟨l,⟨⟨by omega,by omega⟩,by simp⟩,_,_,_,_,_,_,_,_,_,_,_,_,_,_,_,b,br (by decide) ⟨_,rfl,rfl⟩⟩⟩
theorem FD {s s':RS} {l a:List Sk} {skip b_:Int} {cE:Wd} {h:Hd} {body data:List af} {draw:Ky} {text:List af} {m':List Rn} {e:Nat} (ha:iU s l skip b_ h data) (hs:c9 16 h.aN s.aN=true) (he:e≠0)
   (b:l' s l skip b_ cE h body data draw text e s' a m'):k5 s l skip b_ cE h body data draw ya [] [] e:=by
 have h1:=ha.skip;have h2:=ha.b_;have h3:=ha.data;have c:=ha.len
 refine ⟨0,⟨false,br (by omega) (br (by omega) (br (by omega) (decide_eq_false (by omega)).symm)),br (by decide) (br (by omega) ⟨true,tG ha.ord (by omega),b6 rfl (b6 hs rfl)⟩)⟩,br (by decide) ⟨l,⟨⟨by omega,by omega⟩,by simp⟩,_,_,_,_,_,_,_,_,_,_,_,_,_,_,_,b,b6 he rfl⟩⟩
section takes
variable {s:RS} {l:List Sk} {skip b_:Int} {cE:Wd} {h:Hd} {body data:List af} {draw:Ky}
theorem r1 (a:¬(h.bT.toNat+1 < s.turns.toNat∨h.bT.toNat+1=s.turns.toNat∧h.n.toNat < s.cf.toNat)):
   ki s.aN s.root s.e0 s.ff s.peer s.sk s.rk s.own s.turns s.cQ s.cf s.prev s.db s.h1 s.h2 s.h3 s.bind l 0 0 skip b_ 0 cE h.aN h.bT h.key h.prev h.n [] false:=by
 have:=DN (s2:=s.aN) (s3:=s.root) (s4:=s.e0) (s5:=s.ff) (s6:=s.peer) (s7:=s.sk) (s8:=s.rk) (s9:=s.own) (s10:=s.turns) (s11:=s.cQ) (s12:=s.cf) (s13:=s.prev) (s14:=s.db) (s15:=s.h1) (s16:=s.h2) (s17:=s.h3) (s18:=s.bind) (l:=l) (l20:=0) (l21:=0) (l22:=skip) (l23:=b_) (l24:=0) (l25:=cE) (h26:=h.aN) (h27:=h.bT) (h28:=h.key) (h29:=h.prev) (h30:=h.n) (m31:= [])
 rwa [decide_eq_false a] at this
def ti (l:List Sk) (t:Nat) (n:Nat):Prop:=∀x∈l,x.1.toNat < t∨x.1.toNat=t∧x.2.1.toNat < n
theorem pR {k:Int} (a:0≤k) (h1:k < 4294967296):(BitVec.ofInt 32 k).toNat=k.toNat:=by
 rw [BitVec.toNat_ofInt];omega
theorem yA {t:Wd} {lo:Int} {key:Ky} {n:Nat} (b:l.Pairwise dA) (c:0≤lo) (h1:lo+n≤4294967296) (ho:ti l t.toNat lo.toNat):(l ++dH t lo key n).Pairwise dA:=by
 rw [List.pairwise_append]
 refine ⟨b,?_,fun x hx y hy=>?_⟩
 · unfold dH
   rw [List.pairwise_map]
   refine List.Pairwise.imp_of_mem ?_ List.pairwise_lt_range
   intro i j hi a d
   have hi:=List.mem_range.1 hi;have a:=List.mem_range.1 a
   refine .inr ⟨rfl,?_⟩
   show (BitVec.ofInt 32 (lo+(i:Int))).toNat < (BitVec.ofInt 32 (lo+(j:Int))).toNat
   rw [pR (by omega) (by omega),pR (by omega) (by omega)];omega
 · obtain ⟨i,hi,rfl⟩:=List.mem_map.1 hy
   have hi:=List.mem_range.1 hi
   have:=ho x hx
   unfold dA
   dsimp only
   rw [pR (by omega) (by omega)];omega
theorem u_ {t:Wd} {lo:Nat} (ho:ti l t.toNat lo) {k:Int} (b:(lo:Int)≤k) (h1:k < 4294967296):∀x∈l,¬(x.1=t∧x.2.1=BitVec.ofInt 32 k):=by
 intro x hx a
 have:=ho x hx
 rw [a.1,a.2,pR (by omega) h1] at this
 omega
structure qy (s:RS) (l:List Sk) (skip b_:Int) (cE:Wd) (h:Hd):Prop where
 bT:h.bT.toNat+1=s.turns.toNat
 n:s.cf.toNat≤h.n.toNat
 cn:h.n.toNat < cE.toNat
 ct:h.bT.toNat < cE.toNat
 key:c9 32 h.key s.peer=true
 skip:((h.n.toNat:Nat):Int) - ((s.cf.toNat:Nat):Int)≤skip
 b_:h.n.toNat=s.cf.toNat∨((h.n.toNat:Nat):Int) - ((s.cf.toNat:Nat):Int)+(l.length:Int)≤b_
 old:ti l h.bT.toNat s.cf.toNat
theorem jn {a b:Nat}:(((a:Nat):Int) - ((b:Nat):Int)).toNat=a - b:=by omega
theorem uq (hg:qy s l skip b_ cE h) (ha:iU s l skip b_ h data):
   mn s.aN s.root s.e0 s.ff s.peer s.sk s.rk s.own s.turns s.cQ s.cf s.prev s.db s.h1 s.h2 s.h3 s.bind l 0 0 skip b_ 0 cE h.aN h.bT h.key h.prev h.n [(h.bT,((s.cf.toNat:Nat):Int),((h.n.toNat:Nat):Int))] (0,l,[(h.bT,((s.cf.toNat:Nat):Int),((h.n.toNat:Nat):Int))]):=by
 have h1:=hg.n;have h2:=hg.b_;have h3:=h.n.isLt;have e:=ha.len
 refine xe ha.ord (by simp) (fun r c=>?_) (by omega) ?_ (fun r c k a b=>?_)
 · rw [List.mem_singleton.1 c];dsimp only;omega
 · unfold fF;simp only [List.map_cons,List.map_nil,List.sum_cons,List.sum_nil];omega
 · rcases List.mem_append.1 c with d | d
   · rw [List.mem_singleton.1 d] at a b ⊢;dsimp only at a b ⊢
     exact u_ hg.old a (by omega)
   · rw [List.mem_singleton.1 d] at a b ⊢;dsimp only at a b ⊢
     exact u_ hg.old (by omega) (by omega)
def xn (s:RS) (h:Hd):List Sk:=dH h.bT ((s.cf.toNat:Nat):Int) s.rk (h.n.toNat - s.cf.toNat)
theorem u1 (ha:iU s l skip b_ h data) (hg:qy s l skip b_ cE h) (hb:32≤body.length∧body.length≤544)
   {text:List af} (ho:fc (ep (dG s.rk (h.n.toNat - s.cf.toNat))) (eG s.bind h data) body=(text,0)):
   l' s l skip b_ cE h body data draw text 0 { s with rk:=eB (dG s.rk (h.n.toNat - s.cf.toNat)),cf:=h.n+1#32 } (l ++xn s h) [(h.bT,((s.cf.toNat:Nat):Int),((h.n.toNat:Nat):Int))]:=by
 have h1:=hg.n;have h2:=hg.skip;have h3:=h.n.isLt;have e:=ha.len;have f:=ha.skip;have a:=hg.bT;have b:=hg.cn;have c:=hg.ct
 refine ⟨false,r1 (by omega),br (by decide) ⟨_,_,_,uT (by omega) b c hg.key h2,br (by decide) ⟨_,_,_,uq hg ha,br (by decide) ?_⟩⟩⟩
 have key:=C6 (s2:=s.aN) (s3:=s.root) (s4:=s.e0) (s5:=s.ff) (s6:=s.peer) (s7:=s.sk) (s8:=s.rk) (s9:=s.own) (s10:=s.turns) (s11:=s.cQ) (s12:=s.cf) (s13:=s.prev) (s14:=s.db) (s15:=s.h1) (s16:=s.h2) (s17:=s.h3) (s18:=s.bind) (l:=l) (l20:=0) (l21:=0) (l22:=skip) (l23:=b_) (l24:=0) (l25:=cE) (h26:=h.aN) (h27:=h.bT) (h28:=h.key) (h29:=h.prev) (h30:=h.n) (draw:=draw) (t:=h.bT) (lo:=((s.cf.toNat:Nat):Int)) (hi:=((h.n.toNat:Nat):Int))
   (fun d=>by rw [d] at a;omega) (by omega) (by rw [jn];omega) ha.data hb (by rw [jn];exact yA ha.ord (by omega) (by omega) (by rw [Int.toNat_natCast];exact hg.old)) (text:=text) (by rw [jn];exact ho)
 rw [jn] at key
 exact ⟨_,_,_,_,_,_,_,_,_,_,_,_,_,_,_,key,rfl⟩
theorem Ad (ha:iU s l skip b_ h data) (hg:qy s l skip b_ cE h) {e:Nat} (he:e≠0)
   (ho:jb (ep (dG s.rk (h.n.toNat - s.cf.toNat))) (eG s.bind h data) body ([],e)):
   l' s l skip b_ cE h body data draw [] e s (l ++xn s h) [(h.bT,((s.cf.toNat:Nat):Int),((h.n.toNat:Nat):Int))]:=by
 have h1:=hg.n;have h2:=hg.skip;have h3:=h.n.isLt;have f:=ha.len;have g:=ha.skip;have a:=hg.bT;have b:=hg.cn;have c:=hg.ct
 refine ⟨false,r1 (by omega),br (by decide) ⟨_,_,_,uT (by omega) b c hg.key h2,br (by decide) ⟨_,_,_,uq hg ha,br (by decide) ?_⟩⟩⟩
 have key:=DV (s2:=s.aN) (s3:=s.root) (s4:=s.e0) (s5:=s.ff) (s6:=s.peer) (s7:=s.sk) (s8:=s.rk) (s9:=s.own) (s10:=s.turns) (s11:=s.cQ) (s12:=s.cf) (s13:=s.prev) (s14:=s.db) (s15:=s.h1) (s16:=s.h2) (s17:=s.h3) (s18:=s.bind) (l:=l) (l20:=0) (l21:=0) (l22:=skip) (l23:=b_) (l24:=0) (l25:=cE) (h26:=h.aN) (h27:=h.bT) (h28:=h.key) (h29:=h.prev) (h30:=h.n) (draw:=draw) (t:=h.bT) (lo:=((s.cf.toNat:Nat):Int)) (hi:=((h.n.toNat:Nat):Int))
   (fun d=>by rw [d] at a;omega) (by omega) (by rw [jn];omega) ha.data (e:=e) he (by rw [jn];exact ho)
 rw [jn] at key
 exact ⟨_,_,_,_,_,_,_,_,_,_,_,_,_,_,_,key,rfl⟩
structure w6 (s:RS) (l:List Sk) (skip b_:Int) (cE:Wd) (h:Hd):Prop where
 bT:h.bT=0#32
 turns:s.turns=0#32
 prev:h.prev=0#32
 none:l= []
 cn:h.n.toNat < cE.toNat
 own:s.own.toNat < cE.toNat
 skip:((h.n.toNat:Nat):Int)≤skip
 b_:((h.n.toNat:Nat):Int)≤b_
noncomputable def xI (s:RS) (h:Hd) (draw z1 z2:Ky):RS:=
 { s with root:=dM (dM s.root z1) z2,e0:=bQ (dl 32 draw),ff:=bY (dl 32 draw),peer:=h.key,sk:=dk (dM s.root z1) z2,rk:=eB (dG (dk s.root z1) h.n.toNat),own:=s.own+1#32,turns:=s.turns+1#32,cQ:=0#32,cf:=h.n+1#32,prev:=s.cQ }
theorem zn (ha:iU s l skip b_ h data) (hg:w6 s l skip b_ cE h) (hb:32≤body.length∧body.length≤544) {z1 z2:Ky} (h1:fH s.e0 h.key (z1,0)) (h2:fH (bQ (dl 32 draw)) h.key (z2,0))
   {text:List af} (ho:fc (ep (dG (dk s.root z1) h.n.toNat)) (eG s.bind h data) body=(text,0)):
   l' s l skip b_ cE h body data draw text 0 (xI s h draw z1 z2) (dH h.bT 0 (dk s.root z1) h.n.toNat) [(h.bT,0,((h.n.toNat:Nat):Int))]:=by
 have g1:=hg.bT;have g2:=hg.turns;have g3:=hg.prev;have g4:=hg.none;have g5:=hg.cn;have g6:=hg.skip;have g7:=hg.b_;have g8:=ha.skip;have g9:=h.n.isLt
 subst g4
 have c:s.turns.toNat=0:=by rw [g2];rfl
 refine ⟨false,r1 (by omega),br (by decide) ⟨_,_,_,AZ g1 g2 g5 g3 g6 hg.own,br (by decide) ⟨_,_,_,xe .nil (by simp) (fun r b=>?_) (by simp) ?_ (fun r b k d e x hx=>by cases hx),br (by decide) ?_⟩⟩⟩
 · rw [List.mem_singleton.1 b];dsimp only;omega
 · unfold fF;simp only [List.map_cons,List.map_nil,List.sum_cons,List.sum_nil,List.length_nil];omega
 have a:(((h.n.toNat:Nat):Int) - 0).toNat=h.n.toNat:=by omega
 have key:=Cy (s2:=s.aN) (s3:=s.root) (s4:=s.e0) (s5:=s.ff) (s6:=s.peer) (s7:=s.sk) (s8:=s.rk) (s9:=s.own) (s10:=s.turns) (s11:=s.cQ) (s12:=s.cf) (s13:=s.prev) (s14:=s.db) (s15:=s.h1) (s16:=s.h2) (s17:=s.h3) (s18:=s.bind) (l:= []) (l20:=0) (l21:=0) (l22:=skip) (l23:=b_) (l24:=0) (l25:=cE) (h26:=h.aN) (h27:=h.bT) (h28:=h.key) (h29:=h.prev) (h30:=h.n) (draw:=draw) (t:=h.bT) (lo:=0) (hi:=((h.n.toNat:Nat):Int))
   (g1.trans g2.symm) (by omega) (by rw [a,List.length_nil];omega) ha.data hb h1 h2 (by rw [a];exact yA .nil (by omega) (by omega) (fun x hx=>by cases hx)) (text:=text) (by rw [a];exact ho)
 rw [a,List.nil_append] at key
 exact ⟨_,_,_,_,_,_,_,_,_,_,_,_,_,_,_,key,rfl⟩
end takes
end Go.Proofs.YtjclppnbbpnfnaaGreatDoor
namespace Go.Proofs.YtjclppnbbpnfnaaGreatDoor
set_option linter.unusedSimpArgs false
set_option linter.unusedVariables false
set_option linter.unusedSectionVars false
open Go Go.LW
set_option maxRecDepth 10000
theorem sU {x:Int} (h: -9223372036854775808≤x∧x≤9223372036854775807) {n:Int} (a:0 < n):∃k,0≤k∧k < n∧iq x n k:=
 ⟨_,Int.tmod_nonneg n (Ab h),Int.tmod_lt_of_pos _ a,br (by omega) ⟨by omega,rfl⟩⟩
noncomputable def tg (key bind:Ky) (h:Hd) (body more:List af):Bool:=decide (i' (gE key) (eG bind h more) (aT body 0 (body.length - 32))=aT body (body.length - 32) body.length)
theorem w4 {key bind:Ky} {h:Hd} {body more:List af}:fc key (eG bind h more) body=if tg key bind h body more=true then (fR key (aT body 0 (body.length - 32)),0) else ([],50):=by
 unfold fc tg
 by_cases e:aT body (body.length - 32) body.length=i' (gE key) (eG bind h more) (aT body 0 (body.length - 32))
 · rw [if_pos e,if_pos (decide_eq_true e.symm)]
 · rw [if_neg e,decide_eq_false (fun h=>e h.symm)];rfl
theorem DT {n:Nat} (h:n < 65536):hB n= [0#8,0#8,0#8,0#8,0#8,0#8,BitVec.ofNat 8 (n / 2 ^ 8),BitVec.ofNat 8 n]:=by
 have e:∀i,i < 8→(len8 n i).toNat=n / 2 ^ (56 - 8*i) % 256:=fun i hi=>by
   unfold len8
   rw [BitVec.toNat_setWidth,BitVec.toNat_ushiftRight,BitVec.toNat_ofNat,Nat.shiftRight_eq_div_pow,Nat.mod_eq_of_lt (show n < 2 ^ 64 by omega)]
 have z:∀i,i < 6→len8 n i=0#8:=fun i hi=>by
   apply BitVec.eq_of_toNat_eq
   rw [e i (by omega)]
   have h1:2 ^ 16≤2 ^ (56 - 8*i):=Nat.pow_le_pow_right (by decide) (by omega)
   rw [Nat.div_eq_of_lt (by omega)];rfl
 have a:len8 n 6=BitVec.ofNat 8 (n / 2 ^ 8):=by apply BitVec.eq_of_toNat_eq;rw [e 6 (by omega),BitVec.toNat_ofNat]
 have b:len8 n 7=BitVec.ofNat 8 n:=by apply BitVec.eq_of_toNat_eq;rw [e 7 (by omega),BitVec.toNat_ofNat];simp
 show [len8 n 0,len8 n 1,len8 n 2,len8 n 3,len8 n 4,len8 n 5,len8 n 6,len8 n 7]=_
 rw [z 0 (by omega),z 1 (by omega),z 2 (by omega),z 3 (by omega),z 4 (by omega),z 5 (by omega),a,b]
theorem vS {key bind:Ky} {h:Hd} {body more:List af} (hb:32≤body.length∧body.length≤1000) (hm:more.length≤64):
   mu key bind h.aN h.bT h.key h.prev h.n body more (tg key bind h body more,true):=by
 have e:(((body.length:Nat):Int) - 32).toNat=body.length - 32:=by omega
 have hc:(aT body 0 (body.length - 32)).length=body.length - 32:=by rw [fv (by omega)];omega
 have a:=wF bind h more
 have b: [dl 64 bind,jz h.aN h.bT h.key h.prev h.n,more,aT body 0 (body.length - 32),[0#8,0#8,0#8,0#8,0#8,0#8,BitVec.ofNat 8 ((124+more.length) / 2 ^ 8),BitVec.ofNat 8 (124+more.length)]].flatten=eG bind h more ++(aT body 0 (body.length - 32) ++hB (eG bind h more).length):=by
   rw [a,DT (by omega)]
   unfold eG fO
   simp only [List.flatten_cons,List.flatten_nil,List.append_nil,List.append_assoc]
 have M:=lV (X:=aT (h5 key) 32 64) (P:= [dl 64 bind,jz h.aN h.bT h.key h.prev h.n,more,aT body 0 (body.length - 32),[0#8,0#8,0#8,0#8,0#8,0#8,BitVec.ofNat 8 ((124+more.length) / 2 ^ 8),BitVec.ofNat 8 (124+more.length)]])
   (by rw [fv (by rw [mN];omega)];omega) (by simp) (by rw [b];simp only [List.length_append,hc,a];unfold hB;simp only [List.length_map,List.length_range];omega)
 rw [b] at M
 refine ⟨h5 key,0,⟨_,_,uk key,rfl,rfl⟩,br (by decide) (br (fun c=>c (mN key)) (br (by omega) ⟨by omega,by omega,fT (gE key) (eG bind h more ++(aT body 0 (body.length - 32) ++hB (eG bind h more).length)),?_,by omega,by omega,?_⟩))⟩
 · rw [e]
   exact ⟨by rw [mN];omega,by omega,by omega,by omega,_,uU _ _ _ _ _,_,M,_,M,_,M,_,M,rfl⟩
 · rw [e];rfl
abbrev tJ:=Int×(Nat→BitVec 8)×BitVec 32×(Nat→BitVec 8)×BitVec 32×BitVec 32×List af×List af×List af
def msg (to:Int) (h:Hd) (body text data:List af):tJ:=(to,h.aN,h.bT,h.key,h.prev,h.n,body,text,data)
theorem vi {a s' s:RS} {d l c:List Sk} {b:List tJ} {e:Int} {k:Nat} {draw:Ky} {to:Int} {h:Hd} {body text data:List af} (hk:k < b.length)
   (hm:b.getD k ((0:Int),(fun _=>0#8),0#32,(fun _=>0#8),0#32,0#32,([]:List af),([]:List af),([]:List af))=msg to h body text data)
   (f:k5 s l 64 256 1000#32 h body data draw s' c text 0):
   mL a.aN a.root a.e0 a.ff a.peer a.sk a.rk a.own a.turns a.cQ a.cf a.prev a.db a.h1 a.h2 a.h3 a.bind s.aN s.root s.e0 s.ff s.peer s.sk s.rk s.own s.turns s.cQ s.cf s.prev s.db s.h1 s.h2 s.h3 s.bind d l b e ((k:Nat):Int) draw
     (true,s'.aN,s'.root,s'.e0,s'.ff,s'.peer,s'.sk,s'.rk,s'.own,s'.turns,s'.cQ,s'.cf,s'.prev,s'.db,s'.h1,s'.h2,s'.h3,s'.bind,d,c,b):=by
 refine ⟨by omega,s'.aN,s'.root,s'.e0,s'.ff,s'.peer,s'.sk,s'.rk,s'.own,s'.turns,s'.cQ,s'.cf,s'.prev,s'.db,s'.h1,s'.h2,s'.h3,s'.bind,c,text,0,?_,b6 rfl ?_⟩
 · rw [Int.toNat_natCast,hm]
   exact f
 · rw [Int.toNat_natCast,hm]
   rw [decide_eq_true (show text=(msg to h body text data).2.2.2.2.2.2.2.1 from rfl)]
section begins
variable (ay aN:Ky)
abbrev X0:List af:=ew ay 0
abbrev X1:List af:=ew ay 1
abbrev ma:Ky:=bQ (ew ay 2)
noncomputable def gD:Ky:=dk ay (cX (bQ (X0 ay)) (bY (X1 ay)))
noncomputable def pW:Ky:=dM ay (cX (bQ (X0 ay)) (bY (X1 ay)))
noncomputable def h_ (n:Wd):Hd:=⟨aN,1#32 - 1#32,bY (X0 ay),0#32,n⟩
noncomputable def B0:RS:=⟨aN,ay,bQ (X1 ay),bY (X1 ay),zK,zK,zK,0#32,0#32,0#32,0#32,0#32,0#32,zK,zK,0#32,dW⟩
noncomputable def A0 (sk:Ky) (cQ db:Wd):RS:=⟨aN,pW ay,bQ (X0 ay),bY (X0 ay),bY (X1 ay),sk,zK,1#32,0#32,cQ,0#32,0#32,db,zK,zK,0#32,dW⟩
noncomputable def B1 (draw:Ky) (rk:Ky) (cf:Wd):RS:=
 ⟨aN,dM (pW ay) (cX (bQ (dl 32 draw)) (bY (X0 ay))),bQ (dl 32 draw),bY (dl 32 draw),bY (X0 ay),dk (pW ay) (cX (bQ (dl 32 draw)) (bY (X0 ay))),rk,0#32+1#32,0#32+1#32,0#32,cf,0#32,0#32,zK,zK,0#32,dW⟩
theorem vN:(1#32 - 1#32:Wd)=0#32:=by decide
theorem C2 {n:Nat} (g:n≤64) {draw:Ky} {body data text:List af} (c:data.length≤64) (hb:32≤body.length∧body.length≤544)
   (ho:fc (ep (dG (gD ay) n)) (eG dW (h_ ay aN (BitVec.ofNat 32 n)) data) body=(text,0)):
   k5 (B0 ay aN) [] 64 256 1000#32 (h_ ay aN (BitVec.ofNat 32 n)) body data draw (B1 ay aN draw (eB (dG (gD ay) n)) (BitVec.ofNat 32 n+1#32)) (dH 0#32 0 (gD ay) n) text 0:=by
 have a:(BitVec.ofNat 32 n).toNat=n:=by rw [BitVec.toNat_ofNat];omega
 have b:dk ay (cX (bQ (X1 ay)) (bY (X0 ay)))=gD ay:=BX (x8 _ _)
 have d:dM ay (cX (bQ (X1 ay)) (bY (X0 ay)))=pW ay:=Fx (x8 _ _)
 have ha:iU (B0 ay aN) [] 64 256 (h_ ay aN (BitVec.ofNat 32 n)) data:=⟨by decide,by decide,c,.nil,Nat.zero_le _⟩
 have hg:w6 (B0 ay aN) [] 64 256 1000#32 (h_ ay aN (BitVec.ofNat 32 n)):=⟨vN,rfl,rfl,rfl,by show (BitVec.ofNat 32 n).toNat < 1000;omega,by show 0 < 1000;omega,by show (((BitVec.ofNat 32 n).toNat:Nat):Int)≤64;omega,by show (((BitVec.ofNat 32 n).toNat:Nat):Int)≤256;omega⟩
 have key:=sT ha (kH _ _) (zn (draw:=draw) (body:=body) ha hg hb (z1:=cX (bQ (X1 ay)) (bY (X0 ay))) (z2:=cX (bQ (dl 32 draw)) (bY (X0 ay))) (q_ (X1 ay) (X0 ay)) (q_ (dl 32 draw) (X0 ay)) (text:=text) (by
   show fc (ep (dG (dk ay (cX (bQ (X1 ay)) (bY (X0 ay)))) (BitVec.ofNat 32 n).toNat)) _ _=_
   rw [b,a];exact ho))
 have e:({ xI (B0 ay aN) (h_ ay aN (BitVec.ofNat 32 n)) draw (cX (bQ (X1 ay)) (bY (X0 ay))) (cX (bQ (dl 32 draw)) (bY (X0 ay))) with aN:=(B0 ay aN).aN,db:=(B0 ay aN).db,h1:=zK,h2:=zK,h3:=0#32,bind:=(B0 ay aN).bind }:RS)=B1 ay aN draw (eB (dG (gD ay) n)) (BitVec.ofNat 32 n+1#32):=by
   show RS.mk aN (dM (dM ay (cX (bQ (X1 ay)) (bY (X0 ay)))) (cX (bQ (dl 32 draw)) (bY (X0 ay)))) (bQ (dl 32 draw)) (bY (dl 32 draw)) (bY (X0 ay)) (dk (dM ay (cX (bQ (X1 ay)) (bY (X0 ay)))) (cX (bQ (dl 32 draw)) (bY (X0 ay)))) (eB (dG (dk ay (cX (bQ (X1 ay)) (bY (X0 ay)))) (BitVec.ofNat 32 n).toNat)) (0#32+1#32) (0#32+1#32) 0#32 (BitVec.ofNat 32 n+1#32) 0#32 0#32 zK zK 0#32 dW=_
   rw [b,d,a];rfl
 rw [e] at key
 have f:dH (h_ ay aN (BitVec.ofNat 32 n)).bT 0 (dk (B0 ay aN).root (cX (bQ (X1 ay)) (bY (X0 ay)))) (h_ ay aN (BitVec.ofNat 32 n)).n.toNat=dH 0#32 0 (gD ay) n:=by
   show dH (1#32 - 1#32) 0 (dk ay (cX (bQ (X1 ay)) (bY (X0 ay)))) (BitVec.ofNat 32 n).toNat=_
   rw [vN,b,a]
 rw [f] at key
 exact key
end begins
end Go.Proofs.YtjclppnbbpnfnaaGreatDoor
