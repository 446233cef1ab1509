import Derived.Test.YtjclppnbbpnfnaaGreatDoorEc
import Derived.Maps.RangeRun
import Derived.WideKeyRuns
import Derived.MapKept
import Derived.Carry
import Derived.Shelf.SlSortCmp.NoneTotal
import Derived.Shelf.SlMaps.Clone
import Derived.Lib.SliceRun
import Derived.Lib.LaidTab
namespace Go.LW
set_option linter.unusedSimpArgs false
set_option linter.unusedVariables false
set_option linter.unusedSectionVars false
open Go Go.RowKit
def fI {κ:Type} [DecidableEq κ] (k:κ):List (κ×Value)→Nat→Option (Nat×Value)
 | [],_=>none
 | x::l,i=>if k=x.1 then some (i,x.2) else fI k l (i+1)
structure tQ (P:Program) (kt:TypeId) {κ:Type} [DecidableEq κ] (kv:κ→Value):Prop where
 check:∀em k w,(Instr.checkKey em 10000 kt (kv k)).run P w= .ok () w
 find:∀k (l:List MapEntry) (ks:List κ) w,l.map (·.key)=ks.map kv→(Instr.findKey kt (kv k) l).run P w= .ok (fI k (ks.zip (l.map (·.val))) 0) w
 same:∀k,Instr.sameBits 10000 (kv k) (kv k)=true
section keys
variable {P:Program} {kt:TypeId}
theorem wv {k:IntKind} (a:Int):∀(l:List MapEntry) (ks:List Int) (i:Nat),l.map (·.key)=ks.map (Value.int k)→Instr.findNow (.int k) (.int k a) l i=some (fI a (ks.zip (l.map (·.val))) i)
 | [],ks,i,h=>by
   obtain rfl:ks= []:=by simpa using h.symm
   rfl
 | e::l,[],i,h=>by simp at h
 | e::l,q::ks,i,h=>by
   simp only [List.map_cons,List.cons.injEq] at h
   obtain ⟨h1,h2⟩:=h
   simp only [Instr.findNow,h1,Instr.sameNow,if_true,List.map_cons,List.zip_cons_cons,fI]
   by_cases hq:a=q
   · rw [if_pos hq]
     subst hq
     simp
   · rw [if_neg hq]
     have:(a==q)=false:=by simpa using hq
     rw [this]
     exact wv a l ks (i+1) h2
theorem tQ.int (h:n3 P kt .i64=true):tQ P kt (fun a:Int=> .int .i64 a) where
 check:=fun em k w=>by
   have hu:=rL h
   unfold Instr.checkKey
   simp only [Sem.run_bind,run_underlying hu,Result.andThen]
   rfl
 find:=fun k l ks w hk=>by
   simp only [Instr.findKey,Sem.run_bind,run_underlying (rL h),Result.andThen,wv k l ks 0 hk]
   rfl
 same:=fun k=>by simp [Instr.sameBits]
end keys
end Go.LW
namespace Go.LW
set_option linter.unusedSimpArgs false
set_option linter.unusedVariables false
set_option linter.unusedSectionVars false
open Go Go.RowKit
section worlds
variable {B:Nat} {w0:aC} {w w':World} {L:List Rg}
theorem St.drewN (h:St B w0 L w) (m:Nat):St B w0 L (w.drewN m):=
 h.later ⟨⟨rfl,rfl,rfl,Nat.le_refl _,fun _ _=>rfl⟩,Nat.le_add_right _ _⟩
theorem St.grow (h:St B w0 L w) (os:Array Obj):St B w0 L (Sort.grow w os):=
 h.later ⟨⟨rfl,rfl,rfl,by rw [Sort.size_grow];exact Nat.le_add_right _ _,fun k hk=>by
   show (w.heap ++os)[k]? =_
   rw [Array.getElem?_append_left hk]⟩,Nat.le_refl _⟩
theorem Blw.grown (h:Blw w.heap.size w w'):∃q os,w'=Sort.grow (w.drewN q) os:=by
 refine ⟨w'.drawn - w.drawn,w'.heap.extract w.heap.size w'.heap.size,?_⟩
 have h1:=h.os;have h2:=h.tape;have h3:=h.output;have b:=h.drawn;have a:=h.block;have c:=h.size
 obtain ⟨heap,out,os,tape,drawn⟩:=w
 obtain ⟨d,e,f,g,i⟩:=w'
 dsimp only at h1 h2 h3 b a c
 subst h1 h2 h3
 unfold Sort.grow World.drewN
 dsimp only
 congr 1
 · apply Array.ext_getElem?
   intro k
   by_cases hk:k < heap.size
   · rw [Array.getElem?_append_left hk];exact a k hk
   · rw [Array.getElem?_append_right (by omega),Array.getElem?_extract]
     by_cases j:k < d.size
     · rw [if_pos (by omega)];congr 1;omega
     · rw [if_neg (by omega),Array.getElem?_eq_none (by omega)]
 · omega
end worlds
section sort
variable {D:EL} {L0:List Rg}
theorem yJ {F:Nat→Value}:∀(X:List D.α) (o:Nat),(∀j x,X[j]? =some x→D.cells L0 (fun k=>F ((o+j)*D.sz+k)) x)→
   ∃Y:List {p:D.β×D.α // D.side L0 p.1 p.2},Y.map (fun p=>p.1.2)=X∧∀j p,Y[j]? =some p→∀k v,(aS (D.E p.1.1 p.1.2))[k]? =some v→F ((o+j)*D.sz+k)=v
 | [],_,_=>⟨[],rfl,fun j p hp=>by simp at hp⟩
 | x::X,o,h=>by
   obtain ⟨b,h1,h2⟩:=h 0 x rfl
   obtain ⟨Y,h3,a⟩:=yJ X (o+1) (fun j y hy=>by
     have:=h (j+1) y hy
     rw [show o+1+j=o+(j+1) by omega];exact this)
   refine ⟨⟨(b,x),h1⟩::Y,by rw [List.map_cons,h3],fun j p hp k v hv=>?_⟩
   cases j with
   | zero=>
     rw [List.getElem?_cons_zero] at hp
     obtain rfl:=Option.some.inj hp
     exact h2 k v hv
   | succ j=>
     rw [List.getElem?_cons_succ] at hp
     have:=a j p hp k v hv
     rw [show o+1+j=o+(j+1) by omega] at this;exact this
theorem St.putRowK {B:Nat} {w0:aC} {w:World} {L:List Rg} {α:Type} [Inhabited α] (g:St B w0 L w) {kk b c k:Nat} {F:Nat→Value} (h:L[kk]? =some ⟨some b,0,c,F,true⟩) (enc:α→List Value) (d a:Array α) (hH:Sort.HoldsK enc k w b 0 d) (hs:a.size=d.size) (hc:d.size*k≤c):
   St B w0 (L.set kk ⟨some b,0,c,fun q=>if q < a.size*k then (Sort.flatK enc k a)[q]! else F q,true⟩) (Sort.putRowK enc k w b 0 a):=by
 have h1:=g.oW (f':=fun q=>(Sort.flatK enc k a)[q]!) h (a.size*k) (by rw [hs];exact hc)
 have hl:((List.range (a.size*k)).map fun q=>(Sort.flatK enc k a)[q]!).length=a.size*k:=by simp
 have e:Sort.putRowK enc k w b 0 a=w.setCells b 0 ((List.range (a.size*k)).map fun q=>(Sort.flatK enc k a)[q]!):=by
   have h2:=Sort.setCells_putRow w b 0 ((List.range (a.size*k)).map fun q=>(Sort.flatK enc k a)[q]!) 0 (Sort.flatK enc k d) (by rw [hl,Sort.size_flatK,hs];omega)
   have h3:Sort.putRow id w b 0 (Sort.flatK enc k d)=w:=Sort.putRowK_self enc k w b 0 d hH
   rw [h3] at h2
   rw [h2]
   show Sort.putRow id w b 0 (Sort.flatK enc k a)=_
   congr 1
   refine Sort.ext_get! (by rw [Sort.size_setMany,Sort.size_flatK,Sort.size_flatK,hs]) fun t f=>?_
   rw [Sort.size_flatK] at f
   rw [Sort.get_setMany _ _ _ t (by rw [Sort.size_flatK,← hs];exact f),if_pos ⟨Nat.zero_le _,by rw [hl];omega⟩]
   simp [f]
 rw [e]
 exact h1
theorem Dp {α:Type} [Inhabited α] (enc:α→List Value) {k:Nat} (a:Array α) {j q:Nat} (b:j < a.size) (hq:q < k):(Sort.flatK enc k a)[j*k+q]! =(enc a[j]!)[q]! :=by
 have h1:j*k+q < a.size*k:=by
   have:(j+1)*k≤a.size*k:=Nat.mul_le_mul_right _ b
   rw [Nat.succ_mul] at this;omega
 rw [Sort.get_flatK enc k a _ h1]
 have h2:(j*k+q) / k=j:=by rw [Nat.mul_comm,Nat.mul_add_div (by omega),Nat.div_eq_of_lt hq,Nat.add_zero]
 have h3:(j*k+q) % k=q:=by rw [Nat.mul_comm,Nat.mul_add_mod,Nat.mod_eq_of_lt hq]
 rw [h2,h3]
theorem AE {α:Type} {L:List α} {k:Nat} {r:α} (h:L[k]? =some r):L.set k r=L:=List.ext_getElem? fun i=>by
 rw [List.getElem?_set]
 by_cases hk:k=i
 · subst hk;rw [if_pos rfl,if_pos (List.getElem?_eq_some_iff.1 h).1,h]
 · rw [if_neg hk]
variable {P:Program} {ρ:Shelf.Ren} {B:Nat} {w0:aC} {w:World} {L:List Rg}
theorem FK (R:Proofs.SlLaysF0.n6 P ρ) (a3:∀w,(isAgg (ρ.t 24)).run P w= .ok true w) (a4:∀w,(Go.sizeOf (ρ.t 24)).run P w= .ok D.sz w) {g:Nat} (a5:∀args w,(callFunc g args).run P w= .ok (.enter g args) w)
   {a:Option Addr} {pb:Option Nat} {len cap kk:Nat} {F:Nat→Value} {X:List D.α} (u:St B w0 L w) (hO:LO D L0 a pb len cap F X) (C:L[kk]? =some ⟨pb,0,cap*D.sz,F,true⟩) (o:D.α→D.α→Int) (I:Sort.SWO (Proofs.ltOf o))
   (dQ:∀b x,D.val b x=AG (D.E b x))
   (a9:∀(B:Nat) (w0:aC) (L':List Rg) (w:World) S J T K,St B w0 L' w→D.side L' S J→D.side L' T K→Calls P g #[D.val S J,D.val T K] w fun e w'=>e= .returned (.int .i64 (o J K))∧St B w0 L' w')
   (hs:∀b x r,D.side L0 b x→D.side ((L.set kk r).map Rg.ro) b x) (hlen:len < 4611686018427387904) (M:0 < D.sz):
   Calls P (ρ.f 6) #[.slice a len cap,.func (.func g) #[] #[]] w fun e w'=>e= .returned (.tuple #[])∧∃N F',N.Perm X∧N.Pairwise (fun x y=>¬o y x < 0)∧LO D L0 a pb len cap F' N∧St B w0 (L.set kk ⟨pb,0,cap*D.sz,F',true⟩) w':=by
 have ds:kk < L.length:=(List.getElem?_eq_some_iff.1 C).1
 by_cases be:len=0
 · subst be
   refine (Proofs.AnyF.slices_SortFunc_none R a cap _ w).mono ?_
   rintro e w' ⟨rfl,rfl⟩
   have hX:X= []:=List.length_eq_zero_iff.1 hO.hl
   subst hX
   exact ⟨rfl,[],F,.refl _,.nil,hO,by rw [AE C];exact u⟩
 obtain ⟨b,rfl,rfl⟩:=hO.ho.pos (by have:=hO.hc;omega)
 obtain ⟨Y,U,bi⟩:=yJ (F:=F) X 0 (fun j x hx=>by rw [Nat.zero_add];exact hO.hF j x hx)
 have s:Y.length=len:=by rw [← hO.hl,← U,List.length_map]
 cases Y with
 | nil=>exact absurd s (by simp;omega)
 | cons V bv=>
 generalize d0:V::bv=Y at*
 haveI:Inhabited {p:D.β×D.α // D.side L0 p.1 p.2}:=⟨V⟩
 let enc:{p:D.β×D.α // D.side L0 p.1 p.2}→List Value:=fun p=>aS (D.E p.1.1 p.1.2)
 have hk:∀x,(enc x).length=D.sz:=fun x=>D.hlen _ _
 have h1:∀x,∀v∈enc x,v.oneCell'=true:=fun x v hv=>D.one _ _ v hv
 have cc:Y.toArray.size*D.sz≤cap*D.sz:=Nat.mul_le_mul_right _ (by rw [List.size_toArray,s];exact hO.hc)
 have O:=List.mem_of_getElem? C
 have hH:Sort.HoldsK enc D.sz w b 0 Y.toArray:=fun q hq=>by
   rw [Sort.size_flatK] at hq
   obtain ⟨A,hp,hc⟩:=u.at_ _ O q (by show q < cap*D.sz;omega)
   obtain rfl:b=A:=Option.some.inj hp
   obtain ⟨A,hp,_,hf⟩:=u.free _ O rfl q (by show q < cap*D.sz;omega)
   obtain rfl:b=A:=Option.some.inj hp
   refine ⟨?_,hf⟩
   rw [hc]
   congr 1
   have d:q / D.sz < Y.length:=by
     rw [List.size_toArray] at hq
     exact Nat.div_lt_of_lt_mul (by rw [Nat.mul_comm];exact hq)
   have hm:q % D.sz < D.sz:=Nat.mod_lt _ M
   have e:q=q / D.sz*D.sz+q % D.sz:=by rw [Nat.mul_comm];exact (Nat.div_add_mod q D.sz).symm
   have cd:q / D.sz < Y.toArray.size:=by rw [List.size_toArray];exact d
   show F q=(Sort.flatK enc D.sz Y.toArray)[q]!
   rw [Sort.get_flatK enc D.sz Y.toArray q hq]
   have h3:=bi (q / D.sz) Y[q / D.sz] (List.getElem?_eq_getElem d) (q % D.sz) (enc Y.toArray[q / D.sz]!)[q % D.sz]! (by
     rw [getElem!_pos Y.toArray _ cd,List.getElem_toArray]
     have l:q % D.sz < (enc Y[q / D.sz]).length:=by rw [hk];exact hm
     rw [getElem!_pos (enc Y[q / D.sz]) (q % D.sz) l]
     exact List.getElem?_eq_getElem l)
   rw [Nat.zero_add,← e] at h3
   exact h3
 have hblk:b < w.heap.size:=by
   obtain ⟨A,hp,hc⟩:=u.at_ _ O 0 (by
     show 0 < cap*D.sz
     have:=hO.hc
     exact Nat.mul_pos (by omega) M)
   obtain rfl:b=A:=Option.some.inj hp
   exact block_lt_of_cell hc
 have W:∀m os (h:Array {p:D.β×D.α // D.side L0 p.1 p.2}),h.size=Y.toArray.size→St B w0 (L.set kk ⟨some b,0,cap*D.sz,fun q=>if q < h.size*D.sz then (Sort.flatK enc D.sz h)[q]! else F q,true⟩) (Proofs.sortWorldK enc D.sz w b 0 m h os):=fun m os h Q=>
   ((u.drewN m).putRowK C enc Y.toArray h hH Q cc).grow os
 have ce:Proofs.CmpLays P g #[] enc D.sz (fun p q=>o p.1.2 q.1.2) b 0 Y.toArray.size w:=fun m os h Q x y=>by
   have h2:=(W m os h Q).Em
   have h3:=a9 _ _ _ _ x.1.1 x.1.2 y.1.1 y.1.2 h2 (hs _ _ _ x.2) (hs _ _ _ y.2)
   rw [dQ,dQ] at h3
   refine h3.mono fun e w' ⟨he,hw⟩=>⟨he,hw.below.toBlw.grown⟩
 have ci:Sort.SWO (Proofs.ltOf fun p q:{p:D.β×D.α // D.side L0 p.1 p.2}=>o p.1.2 q.1.2):=⟨fun x=>I.irrefl _,fun x y z=>I.trans _ _ _,fun x y z=>I.ntrans _ _ _⟩
 have Z:=Proofs.AnyQ.slices_SortFunc R D.sz a3 a4 enc hk h1 (fun p q=>o p.1.2 q.1.2) ci g #[] b 0 cap Y.toArray w a5 ce hH hblk (by rw [List.size_toArray,s];exact hlen)
 rw [List.size_toArray,s] at Z
 refine Z.mono ?_
 rintro e w' ⟨rfl,c,n,os,hp,cl,rfl⟩
 have am:c.size=Y.toArray.size:=hp.1
 have ap:c.size=len:=by rw [am,List.size_toArray,s]
 have a0:=hp.2.2
 have co:(c.extract 0 len).toList=c.toList:=by rw [← ap,Array.extract_size]
 have cs:(Y.toArray.extract 0 len).toList=Y:=by
   have:len=Y.toArray.size:=by rw [List.size_toArray,s]
   rw [this,Array.extract_size]
 rw [co,cs] at a0
 refine ⟨rfl,c.toList.map (fun p=>p.1.2),_,?_,?_,?_,W n os c am⟩
 · rw [← U];exact a0.map _
 · rw [List.pairwise_map,List.pairwise_iff_getElem]
   intro i j hi d c1
   rw [Array.length_toList] at hi d
   have:=cl i j (Nat.zero_le _) c1 (by omega)
   rw [getElem!_pos c i hi,getElem!_pos c j d] at this
   simp only [Proofs.ltOf,decide_eq_false_iff_not] at this
   rw [Array.getElem_toList,Array.getElem_toList]
   exact this
 · refine ⟨hO.ho,hO.hc,by rw [List.length_map,Array.length_toList,ap],fun j x hx=>?_,fun q hq=>?_⟩
   · rw [List.getElem?_map] at hx
     cases G:c.toList[j]? with
     | none=>rw [G] at hx;cases hx
     | some p=>
       rw [G] at hx
       obtain rfl:=Option.some.inj hx
       have d:j < c.size:=by rw [← Array.length_toList];exact (List.getElem?_eq_some_iff.1 G).1
       have c2:c[j]! =p:=by
         rw [getElem!_pos c j d,← Array.getElem_toList];exact (List.getElem?_eq_some_iff.1 G).2
       refine ⟨p.1.1,p.2,fun k v hv=>?_⟩
       have a2:k < D.sz:=by rw [← D.hlen p.1.1 p.1.2];exact (List.getElem?_eq_some_iff.1 hv).1
       have dl:j*D.sz+k < c.size*D.sz:=by
         have:(j+1)*D.sz≤c.size*D.sz:=Nat.mul_le_mul_right _ d
         rw [Nat.succ_mul] at this;omega
       show (if j*D.sz+k < c.size*D.sz then _ else _)=v
       rw [if_pos dl,Dp enc c d a2,c2]
       have l:k < (enc p).length:=by rw [hk];exact a2
       rw [getElem!_pos (enc p) k l]
       exact (List.getElem?_eq_some_iff.1 hv).2
   · show D.ck (if q < c.size*D.sz then _ else _)
     by_cases H:q < c.size*D.sz
     · rw [if_pos H]
       have hm:q % D.sz < D.sz:=Nat.mod_lt _ M
       have d:q / D.sz < c.size:=Nat.div_lt_of_lt_mul (by rw [Nat.mul_comm];exact H)
       have e:q=q / D.sz*D.sz+q % D.sz:=by rw [Nat.mul_comm];exact (Nat.div_add_mod q D.sz).symm
       rw [Sort.get_flatK enc D.sz c q H]
       have l:q % D.sz < (enc c[q / D.sz]!).length:=by rw [hk];exact hm
       rw [getElem!_pos (enc c[q / D.sz]!) (q % D.sz) l]
       exact D.h9 _ _ _ (List.getElem_mem l)
     · rw [if_neg H];exact hO.hK q hq
end sort
end Go.LW
namespace Go.LW
set_option linter.unusedSimpArgs false
set_option linter.unusedVariables false
set_option linter.unusedSectionVars false
set_option linter.unusedSectionVars false
open Go Go.RowKit
section plain
variable {κ α:Type} [DecidableEq κ]
end plain
section held
variable {κ:Type} [DecidableEq κ] (kv:κ→Value) (D:EL)
abbrev ZE (κ:Type) (D:EL):=Nat×κ×D.β×D.α
def ia (z:ZE κ D):κ×D.α:=(z.2.1,z.2.2.2)
structure kr (L:List Rg) (X:List (κ×D.α)) (Z:List (ZE κ D)) (c:Nat):Prop where
 hX:Z.map (ia D)=X
 side:∀z∈Z,D.side L z.2.2.1 z.2.2.2
 nd:(Z.map (·.2.1)).Nodup
 bn:(Z.map (·.1)).Nodup
 lt:∀z∈Z,z.1 < c
end held
section find
variable {κ:Type} [DecidableEq κ] {kv:κ→Value} {D:EL}
end find
section st
variable {B:Nat} {w0:aC} {w:World} {L:List Rg} {N:List MR}
end st
section step
variable {P:Program} {n:Nat} {K:aW→Env→World→Prop} {l:List It} {O O':aW} {e:Env} {w:World} {i ty:Nat} {d:Tmp} {pos:String} {aft:Array Edge} {gd g:Option (Nat×Bool)}
variable {B:Nat} {w0:aC} {L LL:List Rg} {N:List MR} {κ:Type} [DecidableEq κ] {kv:κ→Value} {D:EL}
theorem kr.push {X:List (κ×D.α)} {Z:List (ZE κ D)} {c:Nat} (h:kr D LL X Z c) {k:κ} {b:D.β} {x:D.α} (hk:k ∉ Z.map (·.2.1)) (hs:D.side LL b x):kr D LL (X ++ [(k,x)]) (Z ++ [(c,k,b,x)]) (c+1) where
 hX:=by rw [List.map_append,h.hX];rfl
 side:=fun z d=>by
   rcases List.mem_append.1 d with d | d
   · exact h.side z d
   · obtain rfl:=List.mem_singleton.1 d;exact hs
 nd:=by
   rw [List.map_append,List.nodup_append]
   exact ⟨h.nd,by simp,fun a ha b hb=>by
     simp only [List.map_cons,List.map_nil,List.mem_singleton] at hb
     subst hb
     exact fun he=>hk (he ▸ ha)⟩
 bn:=by
   rw [List.map_append,List.nodup_append]
   exact ⟨h.bn,by simp,fun a ha b hb=>by
     simp only [List.map_cons,List.map_nil,List.mem_singleton] at hb
     subst hb
     obtain ⟨z,d,rfl⟩:=List.mem_map.1 ha
     have:=h.lt z d
     omega⟩
 lt:=fun z d=>by
   rcases List.mem_append.1 d with d | d
   · exact Nat.lt_succ_of_lt (h.lt z d)
   · obtain rfl:=List.mem_singleton.1 d;exact Nat.lt_succ_self _
end step
end Go.LW
namespace Go.LW
set_option linter.unusedSimpArgs false
set_option linter.unusedVariables false
set_option linter.unusedSectionVars false
set_option linter.unusedSectionVars false
open Go Go.RowKit
def hD {E S:Type} (step:E→S→S→Prop) (Q:S→Prop):Nat→List E→S→Prop
 | 0,_,s=>Q s
 | n+1,R,s=>∀i p,R[i]? =some p→∃s',step p s s'∧hD step Q n (R.eraseIdx i) s'
theorem hD.nil {E S:Type} {step:E→S→S→Prop} {Q:S→Prop} {R:List E} {s:S} (h:hD step Q R.length R s) (a:R= []):Q s:=by subst a;exact h
theorem hD.cons {E S:Type} {step:E→S→S→Prop} {Q:S→Prop} {R:List E} {s:S} (h:hD step Q R.length R s) {i:Nat} {p:E} (hp:R[i]? =some p):∃s',step p s s'∧hD step Q (R.eraseIdx i).length (R.eraseIdx i) s':=by
 have hi:=(List.getElem?_eq_some_iff.1 hp).1
 have e:(R.eraseIdx i).length=R.length - 1:=List.length_eraseIdx_of_lt hi
 obtain ⟨m,hm⟩:∃m,R.length=m+1:=⟨R.length - 1,by omega⟩
 rw [hm] at h
 rw [e,hm]
 exact h i p hp
section held
variable {κ:Type} [DecidableEq κ] (kv:κ→Value) (D:EL)
end held
section st
variable {B:Nat} {w0:aC} {w:World} {L LL:List Rg} {N:List MR} {κ:Type} [DecidableEq κ] {kv:κ→Value} {D:EL}
end st
section step
variable {P:Program} {n:Nat} {K:aW→Env→World→Prop} {l:List It} {O O':aW} {e:Env} {w:World} {i ty:Nat} {d:Tmp} {pos:String} {aft:Array Edge} {gd g:Option (Nat×Bool)}
variable {B:Nat} {w0:aC} {L LL:List Rg} {N:List MR} {κ:Type} [DecidableEq κ] {kv:κ→Value} {D:EL}
end step
section fields
variable {P:Program} {n:Nat} {K:aW→Env→World→Prop} {l:List It} {O O':aW} {e:Env} {w:World} {i ty:Nat} {d:Tmp} {pos:String} {aft:Array Edge} {gd g:Option (Nat×Bool)}
variable {B:Nat} {w0:aC} {L:List Rg} {D:EL}
theorem AQ (s:St B w0 L w) {t:TypeId} {x:Operand} {k len cc j sz off m:Nat} {a:Option Addr} {X:List D.α} (c:D.α) (ps:D.β→D.α→List (Nat×(Nat→Value))) (hX:LV D L k a len cc X) (hg:aI n e g=true) (hx:ev n e x= .pointer (a.map fun z=>⟨z.block,z.off+j*sz+off,none⟩)) (u:j < len) (v:D.sz=sz) (ho:off+m≤sz) (hv:∀b y,((aS (D.E b y)).drop off).take m=aS (ps b y)) (A:cz P t m=true)
   (h:∀b r,D.side L b (X.getD j c)→L[k]? =some r→aa P n K l ((i,r.at)::O) (an e d (AG (ps b (X.getD j c)))) w):aa P n K (⟨i,true,⟨some d,.load t x,ty,pos,aft,gd⟩,g⟩::l) O e w:=by
 subst v
 obtain ⟨hl,hc,hX⟩:=hX
 obtain ⟨C,ms,o,os,qs,G,rw,h1,h2,h3,F,H⟩:=hX (by omega)
 obtain ⟨b,I,J⟩:=h2 (by omega)
 subst J I
 obtain ⟨f,s1,s2⟩:=H j _ (oX (by omega) c)
 have M:ev n e x= .pointer (some ⟨b,C+(o+j*D.sz+off),none⟩):=by rw [hx,← Nat.add_assoc,← Nat.add_assoc,← h3];rfl
 refine lf s k (o+j*D.sz+off) hg M h1 rfl (by have:=yy u F;omega) A ?_
 have N:=h f _ s1 h1
 have Q:AG [(m,fun q=>G (o+j*D.sz+off+q))]=AG (ps f (X.getD j c)):=by
   refine u0 ?_
   rw [eg,← hv f]
   apply List.ext_getElem?
   intro q
   rw [List.getElem?_take,List.getElem?_drop]
   by_cases hq:q < m
   · rw [if_pos hq,List.getElem?_map,List.getElem?_range hq]
     have p:off+q < (aS (D.E f (X.getD j c))).length:=by rw [D.hlen];omega
     rw [List.getElem?_eq_getElem p]
     have:=s2 (off+q) _ (List.getElem?_eq_getElem p)
     rw [← this]
     show some (G _)=some (G _)
     congr 2
     omega
   · rw [if_neg hq,List.getElem?_eq_none (by simpa using hq)]
 rw [Q]
 exact N
end fields
section loops
variable {P:Program} {n:Nat} {R:Exit→Env→World→Prop} {e:Env} {w:World} {κ:Type} {D:EL}
def Cz {S:Type} (step:κ×D.α→S→S→Prop) (Q:S→Prop) (inv:List (ZE κ D)→S→Env→World→Prop) (Y:List (ZE κ D)) (R:Exit→Env→World→Prop):Exit→Env→World→Prop
 | .normal,e,w=>∃Y' s',Y'.length < Y.length∧hD step Q (Y'.map (ia D)).length (Y'.map (ia D)) s'∧inv Y' s' e w
 | x,e,w=>R x e w
theorem W.range {c:Code} {S:Type} {step:κ×D.α→S→S→Prop} {Q:S→Prop} {Z:List (ZE κ D)} {a:S} (d:hD step Q (Z.map (ia D)).length (Z.map (ia D)) a) (inv:List (ZE κ D)→S→Env→World→Prop) (f:inv Z a e w)
   (round:∀Y s,hD step Q (Y.map (ia D)).length (Y.map (ia D)) s→∀e w,inv Y s e w→W P n c (Cz step Q inv Y R) e w):W P n (.loop c) R e w:=by
 refine W.loop (fun m e w=>∃Y s,Y.length=m∧hD step Q (Y.map (ia D)).length (Y.map (ia D)) s∧inv Y s e w) _ ⟨Z,a,rfl,d,f⟩ ?_
 rintro m e w ⟨Y,s,rfl,g,hi⟩
 refine (round Y s g e w hi).mono fun ex e w b=>?_
 cases ex with
 | normal=>obtain ⟨Y',s',h1,h2,h3⟩:=b;exact ⟨_,h1,Y',s',rfl,h2,h3⟩
 | _=>exact b
end loops
theorem cT.qT {P:Program} {w:World} {M:Nat} {u:TypeId} {k:IntKind} (a:P.underlying u=some (.int k)) {ts:List TypeId} {cs:List Value} (h:cT P w M (u::ts) cs):∃(x:Int) (b:List Value),cs= .int k x::b∧k.has x∧cT P w M ts b:=by
 cases h with
 | cons h1 t=>
   cases h1 with
   | int hu hw=>
     rw [a] at hu
     obtain rfl:k=_:=TypeDesc.int.inj (Option.some.inj hu)
     exact ⟨_,_,rfl,by unfold IntKind.has;simpa [Lit.wf] using hw,t⟩
   | bool hu=>rw [a] at hu;cases hu
   | bytes hu _ _ _=>rw [a] at hu;cases hu
section clone
variable {P:Program} {ρ:Shelf.Ren} {B:Nat} {w0:aC} {w:World} {L LL:List Rg} {N:List MR} {κ:Type} [DecidableEq κ] {kv:κ→Value} {D:EL}
end clone
end Go.LW
namespace Go.LW
set_option linter.unusedSimpArgs false
set_option linter.unusedVariables false
set_option linter.unusedSectionVars false
set_option linter.unusedSectionVars false
open Go Go.RowKit
theorem Bx.xX {L:List Rg} {i:Nat} {a:Option Addr} {len cc:Nat} {X:List af} (h:Bx L i a len cc X) (d:a.isNone=true):X= []:=by
 obtain ⟨hl,_,h⟩:=h
 by_cases c:0 < len
 · obtain ⟨_,_,_,_,_,_,_,_,h2,_⟩:=h c
   obtain ⟨b,_,rfl⟩:=h2 c
   cases d
 · exact List.length_eq_zero_iff.1 (by omega)
theorem LV.xX {D:EL} {L:List Rg} {i:Nat} {a:Option Addr} {len cc:Nat} {X:List D.α} (h:LV D L i a len cc X) (d:a.isNone=true):X= []:=by
 obtain ⟨hl,_,h⟩:=h
 by_cases c:0 < len
 · obtain ⟨_,_,_,_,_,_,_,_,h2,_⟩:=h c
   obtain ⟨b,_,rfl⟩:=h2 c
   cases d
 · exact List.length_eq_zero_iff.1 (by omega)
section step
variable {P:Program} {n:Nat} {K:aW→Env→World→Prop} {l:List It} {O O':aW} {e:Env} {w:World} {i ty:Nat} {d:Tmp} {pos:String} {aft:Array Edge} {gd g:Option (Nat×Bool)}
theorem EU {t yt el:TypeId} {x y:Operand} {a:Option Addr} {len cc:Nat} (hu:P.underlying t=some (.slice el)) (hg:aI n e g=true) (hx:ev n e x= .slice a len cc) (hy:ev n e y= .slice none 0 0)
   (h:aa P n K l O (an e d (.bool a.isNone)) w):aa P n K (⟨i,true,⟨some d,.binOp .eql t x y yt,ty,pos,aft,gd⟩,g⟩::l) O e w:=
 aa.val hg (fun w=>b8 (by
   rw [hx,hy,Sem.run_bind]
   have h1:(eqGuard .eql t x y (.slice a len cc) (.slice none 0 0)).run P w= .ok () w:=rfl
   rw [h1]
   exact Go.Lib.run_eql_slice_nil w t el a len cc 0 0 hu)) h
end step
section calls
variable {P:Program} {n:Nat} {K:aW→Env→World→Prop} {l:List It} {O:aW} {e:Env} {w:World} {i ty:Nat} {pos:String} {aft:Array Edge} {gd g:Option (Nat×Bool)}
theorem Dn {f:FuncId} {args:Array Operand} {at':Array TypeId} {dst:Option Tmp} {vs:List Value} {R:Ending→World→Prop} (hg:aI n e g=true) (c:bc P f=true) (d:args.toList.map (ev n e)=vs)
   (hc:Calls P f vs.toArray w R)
   (j:∀x w',R x w'→∃v,x= .returned v∧∃(B:Nat) (w0:aC) (L':List Rg) (O':aW),St B w0 L' w'∧av aft O L' O'∧aa P n K l O' (cv e dst v) w'):
   aa P n K (⟨i,false,⟨dst,.call ⟨.value (.func f),args,at'⟩,ty,pos,aft,gd⟩,g⟩::l) O e w:=by
 unfold aa
 rw [if_pos hg,if_neg (by exact Bool.false_ne_true)]
 rcases xj (P:=P) (ty:=ty) (pos:=pos) (aft:=aft) (gd:=gd) (ρ:=ev n e) (args:=args) (at':=at') (dst:=dst) c w with a | a
 · rw [a]
   show Calls P f (args.map (ev n e)) w _
   have:args.map (ev n e)=vs.toArray:=by
     rw [← d,← Array.toList_map]
   rw [this]
   refine hc.mono fun x w' hx=>?_
   obtain ⟨v,hv,B,w0,L',O',b,hO,h⟩:=j x w' hx
   refine ⟨v,hv,?_⟩
   cases hO with
   | keep hp=>exact .inl ⟨hp.keep b,h⟩
   | wait hw=>exact .inr (.inl ⟨hw,h⟩)
   | mix O' hf hp=>exact .inr (.inr ⟨ae.mix hf hp b,(show (O.filter fun p=> !ee aft p.1)=O' from hf) ▸ h⟩)
 · exact absurd rfl a
theorem nT {o:Oper} (h:aa P n (fun _ e w=>aa P n K l O e w) [⟨i,true,o,g⟩] O e w):aa P n K (⟨i,false,o,g⟩::l) O e w:=by
 unfold aa at h ⊢
 by_cases hg:aI n e g=true
 · rw [if_pos hg,if_pos rfl] at h
   rw [if_pos hg,if_neg (by exact Bool.false_ne_true)]
   obtain ⟨v,⟨h1,h2⟩ | ⟨S,a,h1,h2⟩⟩:=h
   · rw [h1 w];exact .inl ⟨fun _ _ h=>h,h2⟩
   · rw [h1 w a];exact .inl ⟨fun _ _ h=>h,h2⟩
 · rw [if_neg hg] at h ⊢
   exact h
end calls
section pools
variable {B:Nat} {w0:aC} {w:World} {L LP x9:List Rg} {N:List MR} {κ:Type} [DecidableEq κ] {kv:κ→Value} {D:EL}
theorem kr.lift {X:List (κ×D.α)} {Z:List (ZE κ D)} {c:Nat} (h:kr (D.at LP) [] X Z c) (hl:D.jE) (hs:∀r∈LP,r∈x9):kr (D.at x9) [] X Z c:=
 ⟨h.hX,fun z a=>hl _ _ _ _ hs (h.side z a),h.nd,h.bn,h.lt⟩
end pools
section lists
variable {P:Program} {n:Nat} {K:aW→Env→World→Prop} {l:List It} {O O':aW} {e:Env} {w:World} {i ty:Nat} {d:Tmp} {pos:String} {aft:Array Edge} {gd g:Option (Nat×Bool)}
variable {B:Nat} {w0:aC} {L:List Rg} {D:EL}
end lists
end Go.LW
namespace Go.LW
set_option linter.unusedSimpArgs false
set_option linter.unusedVariables false
set_option linter.unusedSectionVars false
open Go Go.RowKit
inductive sf (P:Program) (w:World) (M:Nat):TypeId→Value→Prop
 | one {u:TypeId} {v:Value} (h:ny P w M u v):sf P w M u v
 | rows {u e:TypeId} {ts:List TypeId} {a:Option Addr} {len cap:Nat} {p:Option Nat} {off:Nat} {G:Nat→Value} (hu:P.underlying u=some (.slice e)) (he:∀k,P.underlying e≠some (.int k)) (hl:sS P 12 e=some ts) (h:sA P w M ts a len cap p off G) (hf:cap*P.bytesOf e≤M):sf P w M u (.slice a len cap)
inductive cO (P:Program) (w:World) (M:Nat):List TypeId→List Value→Prop
 | nil:cO P w M [] []
 | cons {u:TypeId} {v:Value} {ts:List TypeId} {cs:List Value} (h:sf P w M u v) (t:cO P w M ts cs):cO P w M (u::ts) (v::cs)
theorem cO.append {P:Program} {w:World} {M:Nat} {ts a:List TypeId} {cs b:List Value} (h:cO P w M ts cs) (c:cO P w M a b):cO P w M (ts ++a) (cs ++b):=by
 induction h with
 | nil=>exact c
 | cons h _ d=>exact .cons h d
theorem cO.length {P:Program} {w:World} {M:Nat} {ts:List TypeId} {cs:List Value} (h:cO P w M ts cs):cs.length=ts.length:=by
 induction h with
 | nil=>rfl
 | cons _ _ a=>rw [List.length_cons,List.length_cons,a]
section
variable {H:Type} {enc:TypeId×Value→H} {P:Program} {w:World} {M:Nat} {held:Bool} {K:TypeId→DataW H→Prop}
end
structure wj (P:Program) (w:World) (M:Nat) (e:TypeId) (ts:List TypeId) (a:Option Addr) (len cap:Nat) (p:Option Nat) (off:Nat) (G:Nat→Value):Prop where
 at_:(Rg.mk p off (cap*ts.length) G false).at w
 sl:ey a p off len
 le:len≤cap
 B4:cap≤maxLen
 GG:cap*P.bytesOf e≤M
 el:∀i,i < cap→cO P w M ts ((List.range ts.length).map fun j=>G (i*ts.length+j))
def y1 (P:Program) (w:World) (M:Nat) (D:EL) (ts:List TypeId) (Q:D.α→Prop):Prop:=∀cells,cO P w M ts cells→∃(R:List Rg) (b:D.β) (x:D.α),(∀r∈R,r.at w∧r.rw=false)∧D.side R b x∧cells=aS (D.E b x)∧Q x
theorem wj.lv {P:Program} {M:Nat} {B:Nat} {w0:aC} {w:World} {L:List Rg} {D:EL} {e:TypeId} {ts:List TypeId} {a:Option Addr} {len cap:Nat} {p:Option Nat} {off:Nat} {G:Nat→Value} (h:wj P w M e ts a len cap p off G) (l:St B w0 L w) (c:LW.c5 L) {Q:D.α→Prop} (ho:y1 P w M D ts Q) (hl:D.jE) (g:D.sz=ts.length):
   ∃(C:List Rg) (X:List D.α),St B w0 (C ++L) w∧LW.c5 (C ++L)∧LV D (C ++L) 0 a len cap X∧∀(j:Nat) x,X[j]? =some x→Q x:=by
 have each:∀i,i < cap→∃(R:List Rg) (b:D.β) (x:D.α),(∀r∈R,r.at w∧r.rw=false)∧D.side R b x∧((List.range ts.length).map fun j=>G (i*ts.length+j))=aS (D.E b x)∧Q x:=fun i hi=>ho _ (h.el i hi)
 have hle:=h.le
 -- the elements, one by one
 have all:∀m,m≤len→∃(R:List Rg) (X:List D.α),X.length=m∧(∀r∈R,r.at w∧r.rw=false)∧∀j x,X[j]? =some x→∃b,D.side R b x∧((List.range ts.length).map fun q=>G (j*ts.length+q))=aS (D.E b x)∧Q x:=by
   intro m
   induction m with
   | zero=>
     intro _
     refine ⟨[],[],rfl,fun r c=>?_,fun j x hx=>?_⟩
     · cases c
     · rw [List.getElem?_nil] at hx;cases hx
   | succ m n=>
     intro hm
     obtain ⟨R,X,h1,h2,h3⟩:=n (by omega)
     obtain ⟨o,b,x,s,t,u⟩:=each m (by omega)
     refine ⟨R ++o,X ++ [x],by rw [List.length_append,h1];rfl,fun r c=>(List.mem_append.1 c).elim (h2 r) (s r),fun j y hy=>?_⟩
     by_cases F:j < m
     · rw [List.getElem?_append_left (by omega)] at hy
       obtain ⟨z,d,f⟩:=h3 j y hy
       exact ⟨z,hl _ _ _ _ (fun r c=>List.mem_append_left _ c) d,f⟩
     · have A:j=m:=by
         have:=(List.getElem?_eq_some_iff.1 hy).1
         rw [List.length_append,h1,List.length_singleton] at this;omega
       subst A
       rw [List.getElem?_append_right (by omega),h1,Nat.sub_self] at hy
       obtain rfl:x=y:=Option.some.inj hy
       exact ⟨b,hl _ _ _ _ (fun r c=>List.mem_append_right _ c) t,u⟩
 obtain ⟨R,X,h1,h2,h3⟩:=all len (Nat.le_refl _)
 obtain ⟨s1,s2⟩:=l.c5 c (⟨p,off,cap*ts.length,G,false⟩::R) (fun r c=>by
   rcases List.mem_cons.1 c with rfl | c
   · exact ⟨h.at_,rfl⟩
   · exact h2 r c)
 refine ⟨_,X,s1,s2,⟨h1,hle,fun _=>⟨off,cap*ts.length,0,off,p,G,false,rfl,h.sl,rfl,by rw [g,Nat.zero_add];exact Nat.mul_le_mul_right _ hle,fun j x hx=>?_⟩⟩,fun j x hx=>(h3 j x hx).choose_spec.2.2⟩
 obtain ⟨b,d,f,_⟩:=h3 j x hx
 refine ⟨b,hl _ _ _ _ (fun r c=>List.mem_append_left _ (List.mem_cons_of_mem _ c)) d,fun k v hv=>?_⟩
 rw [← f] at hv
 have hk:k < ts.length:=by
   have:=(List.getElem?_eq_some_iff.1 hv).1
   simpa using this
 rw [List.getElem?_map,List.getElem?_range hk] at hv
 show G (0+j*D.sz+k)=v
 rw [g,Nat.zero_add]
 exact Option.some.inj hv
theorem cO.cut {P:Program} {w:World} {M:Nat} {u:TypeId} (a:∀e,P.underlying u≠some (.slice e)):∀ {n:Nat} {ts:List TypeId} {cs:List Value},cO P w M (List.replicate n u ++ts) cs→∃c1 c2,cs=c1 ++c2∧cT P w M (List.replicate n u) c1∧cO P w M ts c2
 | 0,ts,cs,h=>⟨[],cs,rfl,.nil,h⟩
 | n+1,ts,cs,h=>by
   rw [List.replicate_succ,List.cons_append] at h
   cases h with
   | cons h1 t=>
     obtain ⟨c1,c2,rfl,h2,h3⟩:=cO.cut a t
     cases h1 with
     | one h1=>exact ⟨_::c1,c2,rfl,.cons h1 h2,h3⟩
     | rows hu=>exact absurd hu (a _)
theorem cO.part {P:Program} {w:World} {M:Nat} {u:TypeId} {k:IntKind} {s:Nat} (hk:UK k s) (a:P.underlying u=some (.int k)) {n:Nat} {ts:List TypeId} {cs:List Value} (h:cO P w M (List.replicate n u ++ts) cs):
   ∃(F:Nat→BitVec s) (b:List Value),cs=(List.range n).map (fun q=>VU k (F q)) ++b∧cO P w M ts b:=by
 obtain ⟨c1,c2,rfl,h2,h3⟩:=cO.cut (fun e he=>by rw [a] at he;cases he) h
 rw [← List.append_nil (List.replicate n u)] at h2
 obtain ⟨F,d,rfl,c⟩:=cT.part hk a h2
 cases c
 exact ⟨F,c2,by rw [List.append_nil],h3⟩
theorem cO.qT {P:Program} {w:World} {M:Nat} {u:TypeId} {k:IntKind} (a:P.underlying u=some (.int k)) {ts:List TypeId} {cs:List Value} (h:cO P w M (u::ts) cs):∃(x:Int) (b:List Value),cs= .int k x::b∧k.has x∧cO P w M ts b:=by
 obtain ⟨c1,c2,rfl,h2,h3⟩:=cO.cut (n:=1) (fun e he=>by rw [a] at he;cases he) h
 obtain ⟨x,f,rfl,c,d⟩:=cT.qT a h2
 cases d
 exact ⟨x,c2,rfl,c,h3⟩
theorem cO.int {P:Program} {w:World} {M:Nat} {u:TypeId} {k:IntKind} (b:P.underlying u=some (.int k)) {ts:List TypeId} {cs:List Value} (h:cO P w M (u::ts) cs):∃(x:Int) (a:List Value),cs= .int k x::a∧cO P w M ts a:=by
 obtain ⟨x,c,h1,_,h2⟩:=h.qT b
 exact ⟨x,c,h1,h2⟩
theorem cO.bool {P:Program} {w:World} {M:Nat} {u:TypeId} (a:P.underlying u=some .bool) {ts:List TypeId} {cs:List Value} (h:cO P w M (u::ts) cs):∃(x:Bool) (b:List Value),cs= .bool x::b∧cO P w M ts b:=by
 obtain ⟨c1,c2,rfl,h2,h3⟩:=cO.cut (n:=1) (fun e he=>by rw [a] at he;cases he) h
 obtain ⟨x,d,rfl,c⟩:=cT.bool a h2
 cases c
 exact ⟨x,c2,rfl,h3⟩
theorem cO.bytes {P:Program} {w:World} {M:Nat} {u e:TypeId} {k:IntKind} (b:P.underlying u=some (.slice e)) (d:P.underlying e=some (.int k)) {ts:List TypeId} {cs:List Value} (h:cO P w M (u::ts) cs):
   ∃(r:Rg) (a:Option Addr) (cap:Nat) (X:List af) (i:Nat) (c:List Value),(r.at w∧r.rw=false)∧Bx [r] i a X.length cap X∧cs= .slice a X.length cap::c∧cO P w M ts c∧X.length≤M:=by
 cases h with
 | cons h1 t=>
   cases h1 with
   | one h1=>
     obtain ⟨r,a,cap,X,i,f,g1,g2,g3,g4,g5⟩:=cT.bytes b (.cons h1 .nil)
     cases g4
     obtain rfl:=(List.cons.inj g3).1
     exact ⟨r,a,cap,X,i,_,g1,g2,rfl,t,g5⟩
   | rows hu he=>
     rw [b] at hu
     obtain rfl:=TypeDesc.slice.inj (Option.some.inj hu)
     exact absurd d (he k)
section
variable {P:Program} {R:Outcome→Env→World→Prop} {n:Nat} {e:Env} {w:World} {K:Env→World→Prop}
theorem BK (a:Option Addr) (cap sz:Nat):(if cap=0 then a else a.map (·.add (0*sz)))=a:=by
 split
 · rfl
 · rw [Nat.zero_mul]
   cases a with
   | none=>rfl
   | some a=>exact congrArg some (by cases a;simp [Addr.add])
end
section
variable {P:Program} {n:Nat} {K:aW→Env→World→Prop} {l:List It} {O O':aW} {e:Env} {w:World} {i ty:Nat} {d:Tmp} {pos:String} {aft:Array Edge} {gd g:Option (Nat×Bool)}
theorem ry {t:TypeId} {x:Operand} {a:Option Addr} {len cap sz hi:Nat} {low high:Option Operand} (ha:dc P t sz=true) (hg:aI n e g=true) (hx:ev n e x= .slice a len cap)
   (b:match low with | some y=>∃k,ev n e y= .int k ((0:Nat):Int) | none=>0=0) (c:match high with | some y=>∃k,ev n e y= .int k (hi:Int) | none=>hi=len) (hb:0≤hi∧hi≤cap)
   (h:aa P n K l O (an e d (.slice a hi cap)) w):aa P n K (⟨i,true,⟨some d,.slice t x low high none,ty,pos,aft,gd⟩,g⟩::l) O e w:=
 gF (lo:=0) ha hg hx (by cases low <;> exact b) c hb (by rw [BK];exact h)
end
end Go.LW
namespace Go.LW
set_option linter.unusedSimpArgs false
set_option linter.unusedVariables false
set_option linter.unusedSectionVars false
open Go
section
variable {P:Program} {n:Nat} {R:Exit→Env→World→Prop} {e:Env} {w:World}
def GL (P:Program) (n:Nat):List Code→(Exit→Env→World→Prop)→Env→World→Prop
 | [],R,e,w=>R .normal e w
 | [c],R,e,w=>W P n c R e w
 | c::l,R,e,w=>W P n c (ef (fun e w=>GL P n l R e w) R) e w
def q3:List Code→Code→Code
 | [],y=>y
 | c::l,y=> .seq c (q3 l y)
theorem Cj {K a:Env→World→Prop}:ef K (ef a R)=ef K R:=by
 funext ex e w;cases ex <;> rfl
theorem uW:∀ {l:List Code} {y:Code} {R:Exit→Env→World→Prop} {e:Env} {w:World},l≠ []→GL P n l (ef (fun e w=>W P n y R e w) R) e w→W P n (q3 l y) R e w
 | [],_,_,_,_,h,_=>absurd rfl h
 | [c],y,R,e,w,_,h=>W.seq h
 | c::d::l,y,R,e,w,_,h=>by
   refine W.seq (W.mono (show W P n c (ef (fun e w=>GL P n (d::l) (ef (fun e w=>W P n y R e w) R) e w) (ef (fun e w=>W P n y R e w) R)) e w from h) fun ex e w hq=>?_)
   rw [Cj] at hq
   cases ex <;> first | exact hq | exact uW (by simp) hq
theorem GL.open {l:List Code} {y:Code} (hl:l≠ []) (h:∀K:Env→World→Prop,(∀e w,W P n y R e w→K e w)→GL P n l (ef K R) e w):W P n (q3 l y) R e w:=
 uW hl (h _ fun _ _ h=>h)
theorem GL.one {c:Code} (h:W P n c R e w):GL P n [c] R e w:=h
theorem GL.mono:∀ {l:List Code} {R a:Exit→Env→World→Prop} {e:Env} {w:World},GL P n l R e w→(∀ex e w,R ex e w→a ex e w)→GL P n l a e w
 | [],_,_,_,_,h,hq=>hq _ _ _ h
 | [c],_,_,_,_,h,hq=>W.mono h hq
 | c::d::l,R,a,e,w,h,hq=>by
   refine W.mono (show W P n c (ef (fun e w=>GL P n (d::l) R e w) R) e w from h) fun ex e w h=>?_
   cases ex <;> first | exact hq _ _ _ h | exact GL.mono h hq
end
end Go.LW
namespace Go.LW
set_option linter.unusedSimpArgs false
set_option linter.unusedVariables false
set_option linter.unusedSectionVars false
open Go Go.RowKit
section run
variable {P:Program} {B:Nat} {w0:aC} {w:World} {L:List Rg}
theorem FG (c:St B w0 L w) {t t' ty:TypeId} {s o len cap n k:Nat} {z:Value} {a:Option Addr} {pb:Option Nat} {F g:Nat→Value} {y:Value} (he:kI P t s o z) (d:L[k]? =some ⟨pb,0,cap*s,F,true⟩) (ho:dI a pb cap)
   (f:Src P s t' y n ((List.range (n*s)).map g) w) (p:len≤cap) (h:len+n≤cap):
   ∃w',(Builtin.append_ #[t,t'] ty #[.slice a len cap,y]).run P w= .ok (.slice a (len+n) cap) w'∧St B w0 (L.set k ⟨pb,0,cap*s,bh F (len*s) (n*s) g,true⟩) w':=by
 obtain ⟨el,i,hu,hi,r,A,C⟩:=he
 subst r
 by_cases u:n=0
 · subst u
   refine ⟨w,run_append_nothing w t t' ty el i hu hi a len cap p y (by simpa using f),?_⟩
   have h1:bh F (len*i.size) (0*i.size) g=F:=by rw [Nat.zero_mul];funext q;rw [c7 _ _ _ _ _ (by omega)]
   have h2:L.set k ⟨pb,0,cap*i.size,F,true⟩=L:=by
     obtain ⟨hk,v⟩:=List.getElem?_eq_some_iff.1 d
     rw [← v];exact List.set_getElem_self hk
   rw [h1,h2];exact c
 · obtain ⟨b,x,ha⟩:∃b,pb=some b∧a=some ⟨b,0,none⟩:=by
     rcases ho with ⟨h1,_⟩ | h1
     · omega
     · exact h1
   subst x ha
   have l:len*i.size+n*i.size≤cap*i.size:=by rw [← Nat.add_mul];exact Nat.mul_le_mul_right _ h
   have m:=c.lh d l
   exact ⟨_,run_append_room_src w t t' ty el i hu hi b 0 len cap y n _ f h (fun j e=>(m j (by simpa using e)).1) (fun j e=>(m j (by simpa using e)).2),c.jL (g:=g) d (n*i.size) l⟩
end run
theorem vJ {B:Nat} {w0:aC} {w:World} {L:List Rg} {a b x:Rg} (h:St B w0 (a::b::L) w) (hx:a=x∨b=x):St B w0 (x::L) w:=by
 rcases hx with rfl | rfl
 · exact h.sub (List.Sublist.cons_cons _ (List.sublist_cons_self _ _))
 · exact h.sub (List.sublist_cons_self _ _)
theorem Ow.zero {a:Option Addr} {pb:Option Nat} {len cap:Nat} {F:Nat→af} {X:List af} (h:Ow a pb len cap F X):Ow a pb ([]:List af).length cap F []:=⟨h.ho,Nat.zero_le _,rfl,fun q hq=>absurd hq (Nat.not_lt_zero q)⟩
section step
variable {P:Program} {n:Nat} {K:aW→Env→World→Prop} {l:List It} {O O':aW} {e:Env} {w:World} {i ty:Nat} {d:Tmp} {pos:String} {aft:Array Edge} {gd g:Option (Nat×Bool)}
variable {B:Nat} {w0:aC} {L:List Rg} {D:EL}
theorem aa.cap {x:Operand} {t:TypeId} {p:Option Addr} {a c:Nat} (b:∃el,P.underlying t=some (.slice el)) (hg:aI n e g=true) (hx:ev n e x= .slice p a c)
   (h:aa P n K l O (an e d (VN c)) w):aa P n K (⟨i,true,⟨some d,.call ⟨.builtin .cap,#[x],#[t]⟩,ty,pos,aft,gd⟩,g⟩::l) O e w:=
 aa.val hg (fun w=>wB (fun cs=>by
   obtain ⟨el,hu⟩:=b
   rw [hx]
   simp only [builtin,Sem.run_bind]
   have:(Builtin.cap_ #[t] ty #[.slice p a c]).run P w= .ok (goInt c) w:=by simp [Builtin.cap_,run_underlying hu]
   rw [this];rfl)) h
theorem E8 {t:TypeId} {x b c f:Operand} {a:Option Addr} {len cap sz lo hi m:Nat} (ha:dc P t sz=true) (hg:aI n e g=true) (hx:ev n e x= .slice a len cap)
   (h1:∃k,ev n e b= .int k (lo:Int)) (h2:∃k,ev n e c= .int k (hi:Int)) (h3:∃k,ev n e f= .int k (m:Int)) (hb:lo≤hi∧hi≤m∧m≤cap)
   (h:∀v,aa P n K l O (an e d v) w):aa P n K (⟨i,true,⟨some d,.slice t x (some b) (some c) (some f),ty,pos,aft,gd⟩,g⟩::l) O e w:=
 aa.val (v:= .slice (if m=lo then a else a.map (·.add (lo*sz))) (hi - lo) (m - lo)) hg (fun w=>b8 (by
   obtain ⟨el,hu,hs⟩:=j4 ha
   obtain ⟨o,h1⟩:=h1
   obtain ⟨p,h2⟩:=h2
   obtain ⟨q,h3⟩:=h3
   rw [hx]
   have j:(Instr.sliceBounds true len cap (some (ev n e b)) (some (ev n e c)) (some (ev n e f))).run P w= .ok (lo,hi,m) w:=by
     unfold Instr.sliceBounds
     simp [h1,h2,h3,run_sliceBound hb.2.2,run_sliceBound hb.2.1,run_sliceBound hb.1]
   simp only [Instr.sliceAt,Instr.slice,Sem.run_bind,run_underlying hu w,Result.andThen,Sem.run_pure,Option.map_some,j,et hs])) (h _)
theorem LO.clip {L0:List Rg} {a:Option Addr} {pb:Option Nat} {len cap:Nat} {F:Nat→Value} {X:List D.α} (h:LO D L0 a pb len cap F X):LO D L0 a pb len len F X:=by
 refine ⟨?_,Nat.le_refl _,h.hl,h.hF,fun q hq=>h.hK q (Nat.lt_of_lt_of_le hq (Nat.mul_le_mul_right _ h.hc))⟩
 rcases h.ho with ⟨h1,h2,h3⟩ | h1
 · exact .inl ⟨by have:=h.hc;omega,h2,h3⟩
 · exact .inr h1
theorem Bk (c:St B w0 L w) {L0:List Rg} {t:TypeId} {x y z:Operand} {a:Option Addr} {pb:Option Nat} {len cap sz:Nat} {F:Nat→Value} {X:List D.α} (k:Nat) (hO:LO D L0 a pb len cap F X) (o:D.sz=sz) (ha:dc P t sz=true) (hg:aI n e g=true) (hx:ev n e x= .slice a len cap) (hy:∃kd,ev n e y= .int kd (len:Int)) (b:∃kd,ev n e z= .int kd (len:Int))
   (f:L[k]? =some ⟨pb,0,cap*sz,F,true⟩)
   (h:LO D L0 a pb len len F X→St B w0 (L.set k ⟨pb,0,len*sz,F,true⟩) w→aa P n K l O (an e d (.slice a len len)) w):aa P n K (⟨i,true,⟨some d,.slice t x none (some y) (some z),ty,pos,aft,gd⟩,g⟩::l) O e w:=by
 have hc:=hO.hc
 refine aa.val hg (fun w=>b8 ?_) (h hO.clip (c.shrink f (Nat.mul_le_mul_right _ hc)))
 obtain ⟨el,hu,hs⟩:=j4 ha
 obtain ⟨p,hy⟩:=hy
 obtain ⟨q,b⟩:=b
 rw [hx]
 have j:(Instr.sliceBounds true len cap none (some (ev n e y)) (some (ev n e z))).run P w= .ok (0,len,len) w:=by
   unfold Instr.sliceBounds
   simp [hy,b,run_sliceBound hc,run_sliceBound (Nat.le_refl len)]
 have m:a.map (·.add (0*sz))=a:=by
   cases a with
   | none=>rfl
   | some a=>simp [Addr.add]
 simp only [Option.map_none,Option.map_some,Instr.sliceAt,Instr.slice,Sem.run_bind,run_underlying hu w,Result.andThen,j,et hs,Sem.run_pure,Nat.sub_zero]
 rw [m]
 split <;> rfl
theorem Fs (m:St B w0 L w) {t t' H:TypeId} {x y:Operand} {len cap lo hi sz I:Nat} {a:Option Addr} {pb:Option Nat} {F:Nat→Value} {X:List D.α} {z:Value} (k:Nat) (o:D.flat) (hO:LO D [] a pb len cap F X) (J:D.sz=sz) (he:eT P t=some (sz,I,some z)) (M:P.underlying t'=some (.slice H)) (hg:aI n e g=true)
   (hx:ev n e x= .slice a lo cap) (hy:ev n e y= .slice (if cap=hi then a else a.map (·.add (hi*sz))) (len - hi) (cap - hi)) (p:L[k]? =some ⟨pb,0,cap*sz,F,true⟩) (hb:lo≤hi∧hi≤len)
   (hw:∀r,av aft O (L.set k r) O')
   (h:∀(F':Nat→Value) w',LO D [] a pb (cG X 0 lo ++cG X hi len).length cap F' (cG X 0 lo ++cG X hi len)→St B w0 (L.set k ⟨pb,0,cap*sz,F',true⟩) w'→aa P n K l O' (cv e (some d) (.slice a (cG X 0 lo ++cG X hi len).length cap)) w'):
   aa P n K (⟨i,false,⟨some d,.call ⟨.builtin .append,#[x,y],#[t,t']⟩,ty,pos,aft,gd⟩,g⟩::l) O e w:=by
 subst J
 have hc:=hO.hc
 have V:=hO.hl
 have N:LV D L k _ (len - hi) (cap - hi) (cG X hi len):=(LO.lv hO (fun b x h=>o _ _ b x h) k p).cG ⟨hb.2,Nat.le_refl _⟩
 obtain ⟨Q,R,s⟩:=rD m M N
 obtain ⟨w',u,S⟩:=FG (P:=P) (ty:=ty) (len:=lo) m (hZ he) p hO.ho R (by omega) (by omega)
 have f:(cG X 0 lo).length=lo:=by rw [nk ⟨Nat.zero_le _,by omega⟩];omega
 have A:(cG X hi len).length=len - hi:=nk ⟨hb.2,by omega⟩
 have hl:(cG X 0 lo ++cG X hi len).length=lo+(len - hi):=by rw [List.length_append,f,A]
 have C:∀ {c j k:Nat},j < c→k < D.sz→j*D.sz+k < c*D.sz:=fun {c j k} E hk=>by
   have:(j+1)*D.sz≤c*D.sz:=Nat.mul_le_mul_right _ E
   rw [Nat.succ_mul] at this
   omega
 have G:LO D [] a pb (lo+(len - hi)) cap (bh F (lo*D.sz) ((len - hi)*D.sz) Q) (cG X 0 lo ++cG X hi len):=by
   refine ⟨hO.ho,by omega,hl,fun j x hx=>?_,fun q hq=>?_⟩
   · have E:j < lo+(len - hi):=by rw [← hl];exact (List.getElem?_eq_some_iff.1 hx).1
     by_cases h1:j < lo
     · rw [List.getElem?_append_left (by omega)] at hx
       have T:X[j]? =some x:=by
         unfold cG at hx
         rw [List.drop_zero,List.getElem?_take_of_lt (by omega)] at hx
         exact hx
       refine (hO.hF j x T).congr fun k hk=>?_
       rw [c7]
       rintro ⟨h2,_⟩
       have:=C (c:=lo) (j:=j) (k:=k) h1 hk
       omega
     · rw [List.getElem?_append_right (by omega)] at hx
       obtain ⟨b,s1,s2⟩:=s _ x hx
       refine EL.cells.congr ⟨b,o _ _ b x s1,s2⟩ fun k hk=>?_
       have W:j*D.sz=lo*D.sz+(j - (cG X 0 lo).length)*D.sz:=by rw [← Nat.add_mul,f];congr 1;omega
       have Y:(j - (cG X 0 lo).length)*D.sz+k < (len - hi)*D.sz:=C (by rw [f];omega) hk
       rw [eh _ _ _ _ _ ⟨by omega,by omega⟩]
       congr 1;omega
   · by_cases h1:lo*D.sz≤q∧q < lo*D.sz+(len - hi)*D.sz
     · rw [eh _ _ _ _ _ h1]
       exact vj (L:=L) (X:=cG X hi len) A s (by omega)
     · rw [c7 _ _ _ _ _ h1];exact hO.hK q hq
 rw [← hl] at u G
 refine gK hg (w':=w') (v:= .slice a (cG X 0 lo ++cG X hi len).length cap) (kn fun c=>?_) S (hw _) fun w' U=>h _ w' G U
 rw [hx,hy]
 simp only [builtin,Sem.run_bind,u]
 rfl
theorem E2 (d:St B w0 L w) {t:TypeId} {x:Operand} {len cap lo hi sz M:Nat} {a:Option Addr} {pb:Option Nat} {F:Nat→Value} {X:List D.α} {z:Value} (f:D.β) (p:D.α) (k:Nat) (hO:LO D [] a pb len cap F X) (N:D.sz=sz) (he:eT P t=some (sz,M,some z)) (s:z.cells.toList=aS (D.E f p)) (hg:aI n e g=true)
   (hx:ev n e x= .slice (if cap=lo then a else a.map (·.add (lo*sz))) (hi - lo) (cap - lo)) (u:L[k]? =some ⟨pb,0,cap*sz,F,true⟩) (hb:len≤lo∧lo≤hi∧hi≤cap)
   (hw:∀r,av aft O (L.set k r) O')
   (h:∀(F':Nat→Value) w',LO D [] a pb len cap F' X→St B w0 (L.set k ⟨pb,0,cap*sz,F',true⟩) w'→aa P n K l O' e w'):
   aa P n K (⟨i,false,⟨none,.call ⟨.builtin .clear,#[x],#[t]⟩,ty,pos,aft,gd⟩,g⟩::l) O e w:=by
 subst N
 obtain ⟨el,inf,hu,Q,a0,a2,R⟩:=hZ he
 have y:z.cells.size=D.sz:=by rw [← Array.length_toList,s,D.hlen]
 have G:∀(w':World),(Builtin.clear_ #[t] ty #[.slice (if cap=lo then a else a.map (·.add (lo*D.sz))) (hi - lo) (cap - lo)]).run P w= .ok (.tuple #[]) w'→(execOp (ev n e) ⟨none,.call ⟨.builtin .clear,#[x],#[t]⟩,ty,pos,aft,gd⟩).run P w= .ok (.value (.tuple #[])) w':=fun w' S=>by
   have T:Array.map (ev n e) #[x]= #[ev n e x]:=by simp
   simp only [execOp,resolve,Sem.run_bind,Sem.run_pure,Result.andThen,invoke,T,hx,builtin,S]
 by_cases c:hi - lo=0
 · have h2:L.set k ⟨pb,0,cap*D.sz,F,true⟩=L:=by
     obtain ⟨hk,U⟩:=List.getElem?_eq_some_iff.1 u
     rw [← U];exact List.set_getElem_self hk
   refine gK (w':=w) hg (G w ?_) (L':=L.set k ⟨pb,0,cap*D.sz,F,true⟩) (by rw [h2];exact d) (hw _) fun w' A=>h F w' hO A
   rw [c]
   simp only [Builtin.clear_]
   cases (if cap=lo then a else a.map (·.add (lo*D.sz))) <;> simp [run_underlying hu]
 · obtain ⟨b,V,ha⟩:=hO.ho.resolve_left (fun h1=>by omega)
   subst V ha
   have H:lo*D.sz+(hi - lo)*D.sz≤cap*D.sz:=by rw [← Nat.add_mul];exact Nat.mul_le_mul_right _ (by omega)
   have W:=d.lh u H
   have I:(Builtin.zeroCells z.cells (hi - lo)).toList=(List.range ((hi - lo)*D.sz)).map fun q=>z.cells[q % D.sz]! :=by
     unfold Builtin.zeroCells
     rw [y]
     simp only [Array.toList_map,Array.toList_range]
   have Y:∀v∈(List.range ((hi - lo)*D.sz)).map fun q=>z.cells[q % D.sz]!,v.oneCell'=true:=fun v hv=>by
     obtain ⟨q,hq,rfl⟩:=List.mem_map.1 hv
     have hq:=List.mem_range.1 hq
     have hs:0 < D.sz:=by
       rcases Nat.eq_zero_or_pos D.sz with c | c
       · rw [c,Nat.mul_zero] at hq;omega
       · exact c
     have hm:q % D.sz < z.cells.size:=by rw [y];exact Nat.mod_lt _ hs
     rw [getElem!_pos z.cells _ hm]
     exact D.one f p _ (by rw [← s];exact Array.getElem_mem_toList hm)
   refine gK (w':=w.setCells b (0+lo*D.sz) ((List.range ((hi - lo)*D.sz)).map fun q=>z.cells[q % D.sz]!)) hg (G _ ?_) (d.jL (g:=fun q=>z.cells[q % D.sz]!) u ((hi - lo)*D.sz) H) (hw _) fun w' A=>h _ w' ⟨hO.ho,hO.hc,hO.hl,fun j x hx=>?_,fun q hq=>?_⟩ A
   · have Z:¬cap=lo:=by omega
     rw [if_neg Z]
     have C:=wY (P:=P) (b:=b) (o:=0+lo*D.sz) (vs:=(List.range ((hi - lo)*D.sz)).map fun q=>z.cells[q % D.sz]!) (w:=w) (by rw [List.length_map,List.length_range];exact W) Y
     obtain ⟨m,hm⟩:∃m,hi - lo=m+1:=⟨hi - lo - 1,by omega⟩
     rw [← I,hm] at C
     rw [← I,hm]
     have am:(zeroValue el).run P w= .ok z w:=h6 (by rw [Q];exact R) w
     have ap:(⟨b,0,none⟩:Addr).add (lo*D.sz)=⟨b,lo*D.sz,none⟩:=by
       unfold Addr.add
       by_cases J:lo*D.sz=0
       · simp [J]
       · simp [J]
     rw [Option.map_some,ap]
     simp [Builtin.clear_,run_underlying hu,am,Result.andThen]
     simp at C
     rw [C]
   · refine (hO.hF j x hx).congr fun q hq=>?_
     rw [c7]
     rintro ⟨h2,_⟩
     have a3:j < len:=by rw [← hO.hl];exact (List.getElem?_eq_some_iff.1 hx).1
     have h3:(j+1)*D.sz≤lo*D.sz:=Nat.mul_le_mul_right _ (by omega)
     rw [Nat.succ_mul] at h3
     omega
   · by_cases h1:lo*D.sz≤q∧q < lo*D.sz+(hi - lo)*D.sz
     · rw [eh _ _ _ _ _ h1]
       have hs:0 < D.sz:=by
         rcases Nat.eq_zero_or_pos D.sz with c | c
         · rw [c,Nat.mul_zero] at hq;omega
         · exact c
       have hm:(q - lo*D.sz) % D.sz < z.cells.size:=by rw [y];exact Nat.mod_lt _ hs
       show D.ck z.cells[(q - lo*D.sz) % D.sz]!
       rw [getElem!_pos z.cells _ hm]
       exact D.h9 f p _ (by rw [← s];exact Array.getElem_mem_toList hm)
     · rw [c7 _ _ _ _ _ h1];exact hO.hK q hq
end step
end Go.LW
namespace Go.LW
set_option linter.unusedSimpArgs false
set_option linter.unusedVariables false
set_option linter.unusedSectionVars false
open Go Go.RowKit
def ra:Nat→List Rg→List (Nat×(Nat→Value))
 | 0,_=> []
 | _+1,[]=> []
 | m+1,r::L=>(r.n,r.f)::ra m L
def lS (b:Nat):Nat→List Nat→List Rg→Prop
 | _,[],_=>True
 | _,_::_,[]=>False
 | o,n::a,r::L=>r.p=some b∧r.off=o∧r.n=n∧r.rw=true∧lS b (o+n) a L
theorem dF.push {L:List Rg} {b o:Nat} {ps:List (Nat×(Nat→Value))} {r:Rg} (h:dF L b o ps):dF (r::L) b o ps:=by
 induction h with
 | nil=>exact .nil
 | cons i h _ a=>exact .cons (i+1) h a
theorem dF.mR {L:List Rg} {b o:Nat} {ps:List (Nat×(Nat→Value))} (h:dF L b o ps):∀C:List Rg,dF (C ++L) b o ps
 | []=>h
 | r::C=>(h.mR C).push
theorem dF.nb {b:Nat}:∀ {a:List Nat} {o:Nat} {L:List Rg},lS b o a L→dF L b o (ra a.length L)
 | [],_,_,_=> .nil
 | n::a,o,[],h=>h.elim
 | n::a,o,⟨p,off,m,f,rw⟩::L,h=>by
   obtain ⟨rfl,rfl,rfl,rfl,c⟩:=h
   exact .cons 0 rfl (dF.nb c).push
theorem dF.run {b o:Nat} {L:List Rg} (a:List Nat) (k:Nat) (h:lS b o a (L.drop k)):dF L b o (ra a.length (L.drop k)):=by
 have:=(dF.nb h).mR (L.take k)
 rwa [List.take_append_drop] at this
theorem cj.push {b:Nat} {o:Nat} {ps:List (Nat×(Nat→Value))} {L L':List Rg} {r:Rg} (h:cj b o ps L L'):cj b o ps (r::L) (r::L'):=by
 induction h with
 | nil=>exact .nil
 | cons i h _ a=>exact .cons (i+1) h a
theorem cj.mR {b:Nat} {o:Nat} {ps:List (Nat×(Nat→Value))} {L L':List Rg} (h:cj b o ps L L'):∀C:List Rg,cj b o ps (C ++L) (C ++L')
 | []=>h
 | r::C=>(h.mR C).push
theorem cj.nb {b:Nat}:∀ {ps:List (Nat×(Nat→Value))} {o:Nat} {L:List Rg},lS b o (ps.map (·.1)) L→cj b o ps L (ao b o ps ++L.drop ps.length)
 | [],_,_,_=> .nil
 | q::ps,o,[],h=>h.elim
 | q::ps,o,⟨p,off,m,f,rw⟩::L,h=>by
   obtain ⟨n,g⟩:=q
   obtain ⟨rfl,rfl,rfl,rfl,a⟩:=h
   exact .cons 0 rfl (cj.nb a).push
theorem cj.run {b o:Nat} {ps:List (Nat×(Nat→Value))} {L:List Rg} (k:Nat) (h:lS b o (ps.map (·.1)) (L.drop k):=by repeat (first | exact trivial | refine ⟨rfl,rfl,rfl,rfl,?_⟩)):cj b o ps L (L.take k ++(ao b o ps ++(L.drop k).drop ps.length)):=by
 have:=(cj.nb h).mR (L.take k)
 rwa [List.take_append_drop] at this
end Go.LW
namespace Go.LW
set_option linter.unusedSimpArgs false
set_option linter.unusedVariables false
set_option linter.unusedSectionVars false
open Go Go.RowKit
def qt (P:Program) (t n:Nat):Bool:=match P.underlying t with
 | some (.struct fs)=>fs.toList.length==n && P.cellsOf t==n && (fs.toList.zipIdx.all fun x=>x.1.offset==x.2 && P.cellsOf x.1.type==1 && (match P.underlying x.1.type with | some (.int _)=>true | _=>false))
 | _=>false
theorem AW {H:Type} {enc:TypeId×Value→H} {P:Program} {w:World} {base:Nat} {sp:Nat→Bool} {held:Bool} {fuel t n:Nat} {cs:List Value} {ds:List (DataW H)} {p:List MemPlace}
   (hb:qt P t n=true) (h:DataW.trod enc P w base sp held fuel t cs=some (.agg ds,p)) (i:Nat) (k:IntKind) (z:Int) (a:ds[i]? =some (.lit (.int k z))):cs[i]? =some (.int k z):=by
 unfold qt at hb
 split at hb
 · rename_i fs f
   simp only [Bool.and_eq_true,beq_iff_eq] at hb
   obtain ⟨⟨o,hc⟩,hf⟩:=hb
   cases fuel with
   | zero=>simp [DataW.trod] at h
   | succ fuel=>
     simp only [DataW.trod,f,hc] at h
     split at h
     · rename_i hl
       obtain ⟨xs,hm,hx⟩:=Option.map_eq_some_iff.1 h
       have c:xs.map (·.1)=ds:=by
         have:=congrArg Prod.fst hx
         simpa using this
       have q:xs.length=fs.toList.length:=Lib.mapM_length hm
       have hi:i < xs.length:=by
         have:=(List.getElem?_eq_some_iff.1 a).1
         rw [← c,List.length_map] at this;exact this
       have g:i < fs.toList.length:=by omega
       obtain ⟨b,hb,d⟩:=Lib.mapM_at hm i fs.toList[i] (List.getElem?_eq_getElem g)
       have e:=List.all_eq_true.1 hf (fs.toList[i],i) (by
         rw [List.mem_iff_getElem?]
         exact ⟨i,by simp [List.getElem?_zipIdx]⟩)
       simp only [Bool.and_eq_true,beq_iff_eq] at e
       obtain ⟨⟨ho,h1⟩,hk⟩:=e
       split at hk
       · rename_i j hu
         rw [ho,h1] at d
         obtain ⟨l,m,rfl,_⟩:=DataW.trod_int hu d
         have h2:(xs.map (·.1))[i]? =some (DataW.lit (.int j l):DataW H):=by simp [hb]
         rw [c,a] at h2
         simp only [Option.some.injEq,DataW.lit.injEq,Lit.int.injEq] at h2
         obtain ⟨rfl,rfl⟩:=h2
         have:=congrArg (·[0]?) m
         simpa [List.getElem?_take,List.getElem?_drop] using this
       · cases hk
     · cases h
 · cases hb
theorem Fm {P:Program} {W:World} {name:String} {ds:List (DataW Unit)} {rest:List (String×DataW Unit)} {g t n:Nat}
   (hg:P.globalNamed name=some g) (a:(P.globals[g]?).map (·.type)=some t) (hb:qt P t n=true) (h:laidMet P ((name,.agg ds)::rest) W) (i:Nat) (k:IntKind) (z:Int) (b:ds[i]? =some (.lit (.int k z))):
   W.cell? ⟨g,i,none⟩=some (.int k z):=by
 obtain ⟨ps,⟨j,t',cs,fuel,p,q,c,d,e,f,_,_⟩,_⟩:=h
 obtain rfl:=Option.some.inj (hg.symm.trans c)
 obtain rfl:=Option.some.inj (a.symm.trans d)
 have:=AW hb f i k z b
 rw [World.var?_cell hg e i]
 simpa using this
theorem St.j_ {B:Nat} {w0:aC} {w:World} {L:List Rg} (h:St B w0 L w) (b:Go.LW.c5 L) {g o:Nat} (v:Value) (hc:w.cell? ⟨g,o,none⟩=some v):St B w0 (⟨some g,o,1,fun _=>v,false⟩::L) w∧Go.LW.c5 (⟨some g,o,1,fun _=>v,false⟩::L):=
 h.nI b fun j a=>⟨g,rfl,by
   have a:j < 1:=a
   obtain rfl:j=0:=by omega
   exact hc⟩
end Go.LW
namespace Go.LW
set_option linter.unusedSimpArgs false
set_option linter.unusedVariables false
set_option linter.unusedSectionVars false
open Go Go.RowKit
@[reducible] def g8 (b o n:Nat) (F:Nat→BitVec 8):Rg:=⟨some b,o,n,fun q=>VU .u8 (F q),true⟩
@[reducible] def g4 (b o:Nat) (x:BitVec 32):Rg:=⟨some b,o,1,fun _=>VU .u32 x,true⟩
@[reducible] def g1 (b o:Nat) (v:Value):Rg:=⟨some b,o,1,fun _=>v,true⟩
@[reducible] def gO (p:Option Nat) (c:Nat) (F:Nat→BitVec 8):Rg:=⟨p,0,c,fun q=>VU .u8 (F q),true⟩
@[reducible] def gL (p:Option Nat) (c:Nat) (F:Nat→Value):Rg:=⟨p,0,c,F,true⟩
@[reducible] def p8 (n:Nat) (F:Nat→BitVec 8):Nat×(Nat→Value):=(n,fun q=>VU .u8 (F q))
@[reducible] def p4 (x:BitVec 32):Nat×(Nat→Value):=(1,fun _=>VU .u32 x)
@[reducible] def p1 (v:Value):Nat×(Nat→Value):=(1,fun _=>v)
@[reducible] def pt (b o:Nat):Value:= .pointer (some ⟨b,o,none⟩)
def dg:List Nat→List (Nat×Bool)
 | []=> []
 | c::l=>(c / 2,Nat.beq (c % 2) 1)::dg l
def vP:Nat→Nat→Nat→List (Nat×Bool)
 | 0,_,_=> []
 | n+1,i,k=>(i,Nat.beq (k % 2) 1)::vP n (i+1) (k / 2)
def tg (n k:Nat):List (Nat×Bool):=vP n 0 k
theorem rr {α:Sort _} {a:α}:a=a:=rfl
section
variable {P:Program} {n:Nat} {R:Exit→Env→World→Prop} {e:Env} {w:World}
theorem ag {id:Nat} {ops:Array Oper} (m k:Nat) (h:aa P n (fun _ e w=>R .normal e w) (items ops (tg m k)) [] e w) (a:qW ops n (tg m k)=true:=by kernel_rfl):W P n (.region id ops false) R e w:=B6 _ a h
theorem bd {id:Nat} {ops:Array Oper} (hm:P.follows .mixedOrders=true) (l:List Nat) (h:aa P n (fun _ e w=>R .normal e w) (items ops (dg l)) [] e w.drew) (a:pc ops n (.line (dg l))=true:=by kernel_rfl):W P n (.region id ops true) R e w:=Ba hm _ a h
theorem aa.fin {K:aW→Env→World→Prop} {O:aW} {Q:Env→World→Prop} (k:∀e w,Q e w→K O e w) (h:Q e w):aa P n K [] O e w:=k _ _ h
end
end Go.LW
namespace Go.LW
open Go
abbrev K8:=Nat→BitVec 8
abbrev U4:=BitVec 32
abbrev aZ:=List (U4×U4×K8)
abbrev bb:=List (U4×Int×Int)
abbrev cI:=List (Int×K8×U4×K8×U4×U4×List af×List af×List af)
@[reducible] def bg:Int×K8×U4×K8×U4×U4×List af×List af×List af:=((0:Int),(fun _=>0#8),0#32,(fun _=>0#8),0#32,0#32,([]:List af),([]:List af),([]:List af))
@[reducible] def gT {s:Nat} (L:List Rg) (i g n:Nat) (k:IntKind) (F:Nat→BitVec s):Prop:=L[i]? =some ⟨some g,0,n,fun q=>VU k (F q),false⟩
@[reducible] def gV (L:List Rg) (i g o:Nat) (v:Value):Prop:=L[i]? =some ⟨some g,o,1,fun _=>v,false⟩
end Go.LW
namespace Go.LW
open Go Go.RowKit
theorem bt {B:Nat} {w0:aC} {w:World} {L L':List Rg} (n:Nat) (is:List Nat) (h:St B w0 L w) (a:pick is (L.take n) ++L.drop n=L':=by rfl) (b:is.Nodup:=by decide):St B w0 L' w:=by
 subst a
 exact St.aF (C:=L.take n) (L:=L.drop n) (by rw [List.take_append_drop];exact h) is b
section
variable {P:Program} {n:Nat} {K:aW→Env→World→Prop} {l:List It} {O:aW} {e:Env} {w:World} {i ty:Nat} {d:Tmp} {pos:String} {aft:Array Edge} {gd g:Option (Nat×Bool)}
theorem aw {f:FuncId} {args:Array Operand} {at':Array TypeId} {dst:Option Tmp} {vs:List Value} {R:Ending→World→Prop} (a:bc P f=true) (hc:Calls P f vs.toArray w R)
   (b:∀x w',R x w'→∃v,x= .returned v∧(((∀p∈O,p.2 w→p.2 w')∧aa P n K l O (cv e dst v) w')∨(O.all (fun p=>cF ⟨dst,.call ⟨.value (.func f),args,at'⟩,ty,pos,aft,gd⟩ p.1)=true∧aa P n K l [] (cv e dst v) w')))
   (c:args.toList.map (ev n e)=vs:=by rfl) (hg:aI n e g=true:=by rfl):
   aa P n K (⟨i,false,⟨dst,.call ⟨.value (.func f),args,at'⟩,ty,pos,aft,gd⟩,g⟩::l) O e w:=aa.call hg a c hc b
theorem dm {f:FuncId} {args:Array Operand} {at':Array TypeId} {dst:Option Tmp} {vs:List Value} {R:Ending→World→Prop} (a:bc P f=true) (hc:Calls P f vs.toArray w R)
   (b:∀x w',R x w'→∃v,x= .returned v∧∃(B:Nat) (w0:aC) (L':List Rg) (O':aW),St B w0 L' w'∧av aft O L' O'∧aa P n K l O' (cv e dst v) w')
   (c:args.toList.map (ev n e)=vs:=by rfl) (hg:aI n e g=true:=by rfl):
   aa P n K (⟨i,false,⟨dst,.call ⟨.value (.func f),args,at'⟩,ty,pos,aft,gd⟩,g⟩::l) O e w:=Dn hg a c hc b
end
end Go.LW
