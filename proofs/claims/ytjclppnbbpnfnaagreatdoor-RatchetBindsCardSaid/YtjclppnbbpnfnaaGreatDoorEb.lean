import Derived.Test.YtjclppnbbpnfnaaGreatDoorEa
import Derived.WideShapes
import Derived.Laws.Externs
import Derived.Lib.SlBytesConst
import Derived.Laws.StructEq
namespace Go.LW
set_option linter.unusedSimpArgs false
set_option linter.unusedVariables false
set_option linter.unusedSectionVars false
open Go Go.RowKit
inductive Iter {S X:Type} (step:S→S ⊕ X→Prop):S→X→Prop
 | done {s:S} {x:X} (h:step s (.inr x)):Iter step s x
 | more {s s':S} {x:X} (h:step s (.inl s')) (t:Iter step s' x):Iter step s x
inductive lR {S X:Type} (step:S→S ⊕ X→Prop):Nat→S→X→Prop
 | done {m:Nat} {s:S} {x:X} (h:step s (.inr x)):lR step m s x
 | more {m:Nat} {s s':S} {x:X} (h:step s (.inl s')) (t:lR step m s' x):lR step (m+1) s x
theorem Iter.n {S X:Type} {step:S→S ⊕ X→Prop} {s:S} {x:X} (h:Iter step s x):∃m,lR step m s x:=by
 induction h with
 | done h=>exact ⟨0,.done h⟩
 | more h _ a=>obtain ⟨m,hm⟩:=a;exact ⟨m+1,.more h hm⟩
theorem b7 {S X:Type} {step:S→S ⊕ X→Prop} {x:X} (f:Nat→S) (m:Nat) (hs:∀i,i < m→step (f i) (.inl (f (i+1)))) (hx:step (f m) (.inr x)):Iter step (f 0) x:=by
 have key:∀d i,i+d=m→Iter step (f i) x:=by
   intro d
   induction d with
   | zero=>intro i hi;obtain rfl:i=m:=by omega
           exact .done hx
   | succ d a=>intro i hi;exact .more (hs i (by omega)) (a (i+1) (by omega))
 exact key m 0 (by omega)
def n_ {S X:Type} (o:S ⊕ X) (inv:S→Env→World→Prop) (R:Exit→Env→World→Prop):Exit→Env→World→Prop
 | .normal,e,w=>∃s,o= .inl s∧inv s e w
 | x,e,w=>R x e w
section loops
variable {P:Program} {n:Nat} {R:Exit→Env→World→Prop} {e:Env} {w:World}
theorem bS {c:Code} {S X:Type} {step:S→S ⊕ X→Prop} {b:S} {x:X} (f:Iter step b x) (inv:S→Env→World→Prop) (g:inv b e w)
   (round:∀s o,step s o→(∀y,o= .inr y→y=x)→∀e w,inv s e w→W P n c (n_ o inv R) e w):W P n (.loop c) R e w:=by
 obtain ⟨m,hm⟩:=f.n
 refine W.loop (fun m e w=>∃s,lR step m s x∧inv s e w) m ⟨b,hm,g⟩ ?_
 rintro m e w ⟨s,hs,hi⟩
 cases hs with
 | done h=>
   refine (round s _ h (fun y hy=>(Sum.inr.inj hy).symm) e w hi).mono fun ex e w a=>?_
   cases ex with
   | normal=>obtain ⟨s',d,_⟩:=a;cases d
   | _=>exact a
 | more h t=>
   refine (round s _ h (fun y hy=>by cases hy) e w hi).mono fun ex e w a=>?_
   cases ex with
   | normal=>obtain ⟨s',d,i⟩:=a;cases d;exact ⟨_,Nat.lt_succ_self _,_,t,i⟩
   | _=>exact a
theorem bq {c:Code} (a:Env→World→Prop) (h:W P n c (ef a R) e w) (b:∀e w,a e w→R .normal e w):W P n c R e w:=
 h.mono fun x e w hx=>by cases x <;> first | exact b _ _ hx | exact hx
theorem aA {p A B:Prop} [Decidable p] (h:if p then A else B) (hc:p):A:=by rw [if_pos hc] at h;exact h
theorem az {p A B:Prop} [Decidable p] (h:if p then A else B) (hc:¬p):B:=by rw [if_neg hc] at h;exact h
theorem po {S X:Type} {o:S ⊕ X} {inv:S→Env→World→Prop} (h:R .ret e w):n_ o inv R .ret e w:=h
theorem bU {S X:Type} {o:S ⊕ X} {inv:S→Env→World→Prop} {id:Nat} (h:R (.exit id) e w):n_ o inv R (.exit id) e w:=h
theorem bG {S X:Type} {o:S ⊕ X} {inv:S→Env→World→Prop} (h:∃s,o= .inl s∧inv s e w):n_ o inv R .normal e w:=h
end loops
section step
variable {P:Program} {n:Nat} {K:aW→Env→World→Prop} {l:List It} {O O':aW} {e:Env} {w:World} {i ty:Nat} {d:Tmp} {pos:String} {aft:Array Edge} {gd g:Option (Nat×Bool)}
variable {B:Nat} {w0:aC} {L L':List Rg}
theorem aR {op:BinOp} {t yt:TypeId} {x y:Operand} {k:IntKind} {a b:Int} {p:Prop} [Decidable p] (c:rf op=true) (hg:aI n e g=true) (hx:ev n e x= .int k a) (hy:ev n e y= .int k b) (hp:d_ op a b=decide p)
   (h:aa P n K l O (an e d (.bool (decide p))) w):aa P n K (⟨i,true,⟨some d,.binOp op t x y yt,ty,pos,aft,gd⟩,g⟩::l) O e w:=uS c hg hx hy (by rw [hp];exact h)
theorem bI {op:BinOp} {t yt:TypeId} {x y:Operand} {k:IntKind} {a b:Int} {p:Prop} [Decidable p] {v:Bool} (c:rf op=true) (hg:aI n e g=true) (hx:ev n e x= .int k a) (hy:ev n e y= .int k b) (hp:d_ op a b=decide p) (hv:decide p=v)
   (h:aa P n K l O (an e d (.bool v)) w):aa P n K (⟨i,true,⟨some d,.binOp op t x y yt,ty,pos,aft,gd⟩,g⟩::l) O e w:=uS c hg hx hy (by rw [hp,hv];exact h)
theorem j3 {a b:Int}:d_ .eql a b=decide (a=b):=by unfold d_;rw [Bool.eq_iff_iff];simp
theorem sN {a b:Int}:d_ .neq a b=decide (a≠b):=by unfold d_;rw [Bool.eq_iff_iff];simp
theorem fE {a b:Int}:d_ .lss a b=decide (a < b):=rfl
theorem fw {a b:Int}:d_ .gtr a b=decide (b < a):=rfl
theorem mo {a b:Int}:d_ .geq a b=decide (b≤a):=rfl
theorem fL {a b:Nat}:d_ .eql a b=decide (a=b):=by rw [j3];exact decide_eq_decide.2 (by omega)
theorem cm {a b:Nat}:d_ .neq a b=decide (a≠b):=by rw [sN];exact decide_eq_decide.2 (by omega)
theorem bW {a b:Nat}:d_ .lss a b=decide (a < b):=decide_eq_decide.2 (by omega)
theorem xi {a b:Nat}:d_ .leq a b=decide (a≤b):=decide_eq_decide.2 (by omega)
theorem dL {a b:Nat}:d_ .gtr a b=decide (b < a):=decide_eq_decide.2 (by omega)
theorem jc {a b:Nat}:d_ .geq a b=decide (b≤a):=decide_eq_decide.2 (by omega)
theorem ih {s:Nat} {a b:BitVec s}:d_ .eql (a.toNat:Int) (b.toNat:Int)=decide (a=b):=by rw [fL];exact decide_eq_decide.2 ⟨BitVec.eq_of_toNat_eq,fun h=>by rw [h]⟩
theorem eV {s:Nat} {a b:BitVec s}:d_ .neq (a.toNat:Int) (b.toNat:Int)=decide (a≠b):=by rw [cm];exact decide_eq_decide.2 ⟨fun h h2=>h (by rw [h2]),fun h h2=>h (BitVec.eq_of_toNat_eq h2)⟩
theorem AM {t yt:TypeId} {x y:Operand} {s m:Nat} {kd:IntKind} {F G:Nat→BitVec s} {b:Bool} (ha:gm P t m kd=true) (hg:aI n e g=true) (hx:ev n e x=AG [(m,fun q=>VU kd (F q))]) (hy:ev n e y=AG [(m,fun q=>VU kd (G q))]) (hb:c9 m F G=b)
   (h:aa P n K l O (an e d (.bool b)) w):aa P n K (⟨i,true,⟨some d,.binOp .eql t x y yt,ty,pos,aft,gd⟩,g⟩::l) O e w:=AI ha hg hx hy (by rw [hb];exact h)
theorem s0 {t yt:TypeId} {x y:Operand} {s m:Nat} {kd:IntKind} {F G:Nat→BitVec s} {b:Bool} (ha:gm P t m kd=true) (hg:aI n e g=true) (hx:ev n e x=AG [(m,fun q=>VU kd (F q))]) (hy:ev n e y=AG [(m,fun q=>VU kd (G q))]) (hb:c9 m F G=b)
   (h:aa P n K l O (an e d (.bool (!b))) w):aa P n K (⟨i,true,⟨some d,.binOp .neq t x y yt,ty,pos,aft,gd⟩,g⟩::l) O e w:=AT ha hg hx hy (by rw [hb];exact h)
theorem c3 {t:TypeId} {x y:Operand} {b o o' j len sz:Nat} {k:IntKind} (ha:du P t len sz=true) (hg:aI n e g=true) (hx:ev n e x= .pointer (some ⟨b,o,none⟩)) (hy:ev n e y= .int k (j:Int)) (a:j < len) (ho:o+j*sz=o')
   (h:aa P n K l O (an e d (.pointer (some ⟨b,o',none⟩))) w):aa P n K (⟨i,true,⟨some d,.indexAddr t x y,ty,pos,aft,gd⟩,g⟩::l) O e w:=ud ha hg hx hy a (by rw [ho];exact h)
end step
def Bx (L:List Rg) (i:Nat) (a:Option Addr) (len cc:Nat) (X:List af):Prop:=
 X.length=len∧len≤cc∧(0 < len→∃(c ms b os:Nat) (ps:Option Nat) (G:Nat→af) (rw:Bool),L[i]? =some ⟨ps,c,ms,fun q=>VU .u8 (G q),rw⟩∧ey a ps os len∧os=c+b∧b+len≤ms∧∀q,q < len→lit X q=G (b+q))
theorem Bx.bs {L:List Rg} {i:Nat} {a:Option Addr} {len cc:Nat} {X:List af} (h:Bx L i a len cc X) (b:0 < len):Bs L a len cc (lit X):=by
 obtain ⟨hl,hc,h⟩:=h
 obtain ⟨c,ms,d,os,ps,G,rw,h1,h2,h3,e,f⟩:=h b
 exact ⟨i,c,ms,d,os,ps,G,rw,h1,h2,h3,e,hc,f⟩
theorem Bx.iK {L:List Rg} {i:Nat} {a:Option Addr} {len cc:Nat} {X:List af} (h:Bx L i a len cc X) (k:Nat) {ps:Option Nat} {b ms:Nat} {G:Nat→af} {rw:Bool} (c:L[k]? =some ⟨ps,b,ms,fun q=>VU .u8 (G q),rw⟩):Bs L a len cc (lit X):=by
 by_cases d:0 < len
 · exact h.bs d
 · obtain ⟨hl,hc,h⟩:=h
   obtain rfl:len=0:=by omega
   exact ⟨k,b,ms,0,b,ps,G,rw,c,fun e=>absurd e (Nat.lt_irrefl 0),rfl,Nat.zero_le _,hc,fun q hq=>absurd hq (Nat.not_lt_zero q)⟩
theorem Bx.hl {L:List Rg} {i:Nat} {a:Option Addr} {len cc:Nat} {X:List af} (h:Bx L i a len cc X):X.length=len:=h.1
theorem Bs.bx {L:List Rg} {a:Option Addr} {len cc:Nat} {X:List af} (h:Bs L a len cc (lit X)) (hl:X.length=len):∃i,Bx L i a len cc X:=by
 obtain ⟨i,b,ms,c,os,ps,G,rw,h1,h2,h3,d,e,f⟩:=h
 exact ⟨i,hl,e,fun _=>⟨b,ms,c,os,ps,G,rw,h1,h2,h3,d,f⟩⟩
theorem Bx.nil {L:List Rg} (i:Nat) {a:Option Addr} {cc:Nat}:Bx L i a 0 cc []:=⟨rfl,Nat.zero_le _,fun h=>absurd h (Nat.lt_irrefl 0)⟩
theorem Bx.le {L:List Rg} {i:Nat} {a:Option Addr} {len cc:Nat} {X:List af} (h:Bx L i a len cc X):len≤cc:=h.2.1
theorem Bx.app {L:List Rg} {i:Nat} {a:Option Addr} {len cc:Nat} {X:List af} (h:Bx L i a len cc X) (C:List Rg):Bx (C ++L) (i+C.length) a len cc X:=by
 obtain ⟨hl,hc,h⟩:=h
 refine ⟨hl,hc,fun b=>?_⟩
 obtain ⟨c,ms,d,os,ps,G,rw,h1,h2⟩:=h b
 refine ⟨c,ms,d,os,ps,G,rw,?_,h2⟩
 rw [List.getElem?_append_right (by omega),Nat.add_sub_cancel];exact h1
theorem Bx.aT {L:List Rg} {i:Nat} {a:Option Addr} {len cc:Nat} {X:List af} (h:Bx L i a len cc X) {lo hi:Nat} (hb:lo≤hi∧hi≤len):Bx L i (if cc=lo then a else a.map (·.add (lo*1))) (hi - lo) (cc - lo) (aT X lo hi):=by
 obtain ⟨hl,hc,h⟩:=h
 refine ⟨fv (by omega),by omega,fun c=>?_⟩
 obtain ⟨d,ms,e,os,ps,G,rw,h1,h2,h3,k,f⟩:=h (by omega)
 refine ⟨d,ms,e+lo,os+lo,ps,G,rw,h1,?_,by omega,by omega,fun q hq=>?_⟩
 · intro c
   obtain ⟨b,g,j⟩:=h2 (by omega)
   refine ⟨b,g,?_⟩
   rw [if_neg (by omega),j]
   simp [Addr.add]
 · rw [mY (by omega) (by omega),f _ (by omega),Nat.add_assoc]
structure Ow (a:Option Addr) (pb:Option Nat) (len cap:Nat) (F:Nat→af) (X:List af):Prop where
 ho:dI a pb cap
 hc:len≤cap
 hl:X.length=len
 hF:∀q,q < len→lit X q=F q
theorem Ow.nil:Ow none none 0 0 (fun _=>0#8) []:=⟨dI.nil,Nat.le_refl _,rfl,fun q hq=>absurd hq (Nat.not_lt_zero q)⟩
theorem Ow.bx {L:List Rg} {a:Option Addr} {pb:Option Nat} {len cap:Nat} {F:Nat→af} {X:List af} (h:Ow a pb len cap F X) (k:Nat) {rw:Bool} (b:L[k]? =some ⟨pb,0,cap,fun q=>VU .u8 (F q),rw⟩):Bx L k a len cap X:=
 ⟨h.hl,h.hc,fun _=>⟨0,cap,0,0,pb,F,rw,b,h.ho.sl h.hc,rfl,by have:=h.hc;omega,fun q hq=>by rw [Nat.zero_add];exact h.hF q hq⟩⟩
theorem Bx.arr {L:List Rg} (k:Nat) {b a lo n cc m:Nat} {G:Nat→af} {rw:Bool} (h:L[k]? =some ⟨some b,a,m,fun q=>VU .u8 (G q),rw⟩) (c:lo+n≤m) (hc:n≤cc):Bx L k (some ⟨b,a+lo,none⟩) n cc (dl n fun q=>G (lo+q)):=
 ⟨ea _ _,hc,fun _=>⟨a,m,lo,a+lo,some b,G,rw,h,fun _=>⟨b,rfl,rfl⟩,rfl,c,fun q hq=>qb _ hq⟩⟩
theorem bH {L:List Rg} (k:Nat) {b a n cc m:Nat} {G:Nat→af} {rw:Bool} (h:L[k]? =some ⟨some b,a,m,fun q=>VU .u8 (G q),rw⟩) (c:n≤m) (hc:n≤cc):Bx L k (some ⟨b,a,none⟩) n cc (dl n G):=
 ⟨ea _ _,hc,fun _=>⟨a,m,0,a,some b,G,rw,h,fun _=>⟨b,rfl,rfl⟩,rfl,by omega,fun q hq=>by rw [Nat.zero_add];exact qb _ hq⟩⟩
theorem Ow.arr {b m:Nat} {G:Nat→af}:Ow (some ⟨b,0,none⟩) (some b) m m G (dl m G):=⟨.inr ⟨b,rfl,rfl⟩,Nat.le_refl _,ea _ _,fun q hq=>qb _ hq⟩
section step
variable {P:Program} {n:Nat} {K:aW→Env→World→Prop} {l:List It} {O O':aW} {e:Env} {w:World} {i ty:Nat} {d:Tmp} {pos:String} {aft:Array Edge} {gd g:Option (Nat×Bool)}
variable {B:Nat} {w0:aC} {L L':List Rg}
theorem BP {t:TypeId} {x y:Operand} {k:IntKind} {c len cc j:Nat} {a:Option Addr} {X:List af} (hX:Bx L c a len cc X) (ha:dc P t 1=true) (hg:aI n e g=true) (hx:ev n e x= .slice a len cc) (hy:ev n e y= .int k (j:Int)) (f:j < len)
   (h:aa P n K l O (an e d (.pointer (a.map fun z=>⟨z.block,z.off+j,none⟩))) w):aa P n K (⟨i,true,⟨some d,.indexAddr t x y,ty,pos,aft,gd⟩,g⟩::l) O e w:=by
 obtain ⟨hl,hc,hX⟩:=hX
 obtain ⟨o,ms,p,os,ps,G,rw,h1,h2,h3⟩:=hX (by omega)
 obtain ⟨b,q,m⟩:=h2 (by omega)
 subst m
 exact u9 ha hg hx hy f h
theorem oN (f:St B w0 L w) {t:TypeId} {x:Operand} {c len cc j:Nat} {a:Option Addr} {X:List af} (hX:Bx L c a len cc X) (hg:aI n e g=true) (hx:ev n e x= .pointer (a.map fun z=>⟨z.block,z.off+j,none⟩)) (k:j < len) (m:dC P t=true)
   (h:∀r,L[c]? =some r→aa P n K l ((i,r.at)::O) (an e d (VU .u8 (lit X j))) w):aa P n K (⟨i,true,⟨some d,.load t x,ty,pos,aft,gd⟩,g⟩::l) O e w:=by
 obtain ⟨hl,hc,hX⟩:=hX
 obtain ⟨o,ms,p,os,ps,G,rw,h1,h2,h3,y,q⟩:=hX (by omega)
 obtain ⟨b,s,u⟩:=h2 (by omega)
 subst u s
 have v:ev n e x= .pointer (some ⟨b,o+(p+j),none⟩):=by rw [hx,← Nat.add_assoc,← h3];rfl
 refine bk f c hg v h1 (by omega) m ?_
 have:=h _ h1
 rw [q j k] at this
 exact this
theorem rX (d:St B w0 L w) {t:TypeId} {x y:Operand} {len cap j:Nat} {a:Option Addr} {pb:Option Nat} {F:Nat→af} {X:List af} {Y:af} (k:Nat) (hO:Ow a pb len cap F X) (hg:aI n e g=true) (hx:ev n e x= .pointer (a.map fun z=>⟨z.block,z.off+j,none⟩)) (hy:ev n e y=VU .u8 Y)
   (f:L[k]? =some ⟨pb,0,cap,fun q=>VU .u8 (F q),true⟩) (s:j < len) (m:bN P t 1=true) (hw:O.all (fun p=>cF ⟨none,.store t x y,ty,pos,aft,gd⟩ p.1)=true)
   (h:∀w' F',Ow a pb len cap F' (X.set j Y)→St B w0 (L.set k ⟨pb,0,cap,fun q=>VU .u8 (F' q),true⟩) w'→aa P n K l [] e w'):aa P n K (⟨i,false,⟨none,.store t x y,ty,pos,aft,gd⟩,g⟩::l) O e w:=by
 have o:=hO.hc
 obtain ⟨b,rfl,rfl⟩:=hO.ho.pos (by omega)
 refine cr (off:=0) d k hg (by rw [hx];rfl) hy f (by omega) m hw fun w' r=>h w' _ ⟨hO.ho,o,by rw [List.length_set];exact hO.hl,fun q hq=>?_⟩ r
 have h1:=hO.hF q hq
 have h2:=hO.hl
 unfold lit at h1 ⊢
 rw [da]
 by_cases c:q=j
 · subst c;rw [if_pos rfl,List.getD_eq_getElem?_getD,List.getElem?_set_self (by omega)];rfl
 · rw [if_neg c,← h1,List.getD_eq_getElem?_getD,List.getD_eq_getElem?_getD,List.getElem?_set_ne (Ne.symm c)]
theorem kS (u:St B w0 L w) {t t' sz:TypeId} {x y:Operand} {len cap m j v:Nat} {a o:Option Addr} {pb:Option Nat} {F:Nat→af} {X Y:List af} (k:Nat) (hO:Ow a pb len cap F X) (he:eT P t=some (1,1,some (VU .u8 0#8))) (z:dc P t' sz=true) (hg:aI n e g=true)
   (hx:ev n e x= .slice a len cap) (hy:ev n e y= .slice o m j) (p:L[k]? =some ⟨pb,0,cap,fun q=>VU .u8 (F q),true⟩) (s:Bx L v o m j Y) (hb:len+m≤140737488355328)
   (hw:∀r,av aft O (L.set k r) O')
   (h:∀c f b (F':Nat→af) w',Ow c f (X ++Y).length b F' (X ++Y)→St B w0 (L.set k ⟨f,0,b,fun q=>VU .u8 (F' q),true⟩) w'→aa P n K l O' (cv e (some d) (.slice c (X ++Y).length b)) w'):
   aa P n K (⟨i,false,⟨some d,.call ⟨.builtin .append,#[x,y],#[t,t']⟩,ty,pos,aft,gd⟩,g⟩::l) O e w:=
 FI u k he z hg hx hy p hO.ho hO.hc hO.hl hO.hF (s.iK k p) s.hl hb hw fun c f b F' w' h1 h2 h3 A=>h c f b F' w' ⟨h1,h2,rfl,h3⟩ A
theorem St.cN (h:St B w0 L w):St B w0 (⟨none,0,0,fun q=>VU .u8 ((fun _=>0#8:Nat→af) q),true⟩::L) w:=h.BH
end step
end Go.LW
namespace Go.LW
set_option linter.unusedSimpArgs false
set_option linter.unusedVariables false
set_option linter.unusedSectionVars false
open Go Go.RowKit
section step
variable {P:Program} {n:Nat} {K:aW→Env→World→Prop} {l:List It} {O O':aW} {e:Env} {w:World} {i ty:Nat} {d:Tmp} {pos:String} {aft:Array Edge} {gd g:Option (Nat×Bool)}
variable {B:Nat} {w0:aC} {L L':List Rg}
def Ds (op:BinOp) (a b:Nat):Nat:=match op with | .and=>a &&& b | .or=>a ||| b | _=>a ^^^ b
theorem wg {op:BinOp} {t yt:TypeId} {x y:Operand} {a b:Nat} (hg:aI n e g=true) (hx:ev n e x=VN a) (hy:ev n e y=VN b) (ha:a < 9223372036854775808) (hb:b < 9223372036854775808) (m:op= .and∨op= .or∨op= .xor)
   (h:aa P n K l O (an e d (VN (Ds op a b))) w):aa P n K (⟨i,true,⟨some d,.binOp op t x y yt,ty,pos,aft,gd⟩,g⟩::l) O e w:=
 aa.val hg (fun w=>hU hx hy (by
   have key:∀Z:BitVec 64,Z.toNat < 9223372036854775808→(Sem.pure (Value.int .i64 (IntKind.i64.wrap Z.toNat))).run P w= .ok (VN Z.toNat) w:=fun Z o=>by
     rw [fK _ (by omega)];rfl
   have f:(BitVec.ofNat 64 a).toNat=a:=by simp only [BitVec.toNat_ofNat];omega
   have j:(BitVec.ofNat 64 b).toNat=b:=by simp only [BitVec.toNat_ofNat];omega
   have k:∀z:Nat,z < 9223372036854775808↔z < 2 ^ 63:=fun z=>by omega
   rcases m with rfl | rfl | rfl <;> simp only [binOp,ne_eq,not_true_eq_false,if_false,Op.intBits,BitVec.ofInt_natCast]
   · have c:(BitVec.ofNat 64 a &&& BitVec.ofNat 64 b).toNat=a &&& b:=by rw [BitVec.toNat_and,f,j]
     refine (key (BitVec.ofNat 64 a &&& BitVec.ofNat 64 b) ?_).trans ?_
     · rw [c];rw [k] at *;exact Nat.and_lt_two_pow _ hb
     · rw [c];rfl
   · have c:(BitVec.ofNat 64 a ||| BitVec.ofNat 64 b).toNat=a ||| b:=by rw [BitVec.toNat_or,f,j]
     refine (key (BitVec.ofNat 64 a ||| BitVec.ofNat 64 b) ?_).trans ?_
     · rw [c];rw [k] at *;exact Nat.or_lt_two_pow ha hb
     · rw [c];rfl
   · have c:(BitVec.ofNat 64 a ^^^ BitVec.ofNat 64 b).toNat=a ^^^ b:=by rw [BitVec.toNat_xor,f,j]
     refine (key (BitVec.ofNat 64 a ^^^ BitVec.ofNat 64 b) ?_).trans ?_
     · rw [c];rw [k] at *;exact Nat.xor_lt_two_pow ha hb
     · rw [c];rfl)) h
theorem z7 {t yt:TypeId} {x y:Operand} {a b:Nat} (hg:aI n e g=true) (hx:ev n e x=VN a) (hy:ev n e y=VN b) (hb:a < 9223372036854775808∧b < 9223372036854775808)
   (h:aa P n K l O (an e d (VN (a &&& b))) w):aa P n K (⟨i,true,⟨some d,.binOp .and t x y yt,ty,pos,aft,gd⟩,g⟩::l) O e w:=wg hg hx hy hb.1 hb.2 (by simp) h
theorem aa.fU {t yt:TypeId} {x y:Operand} {a b:Nat} (hg:aI n e g=true) (hx:ev n e x=VN a) (hy:ev n e y=VN b) (hb:a < 9223372036854775808∧b < 9223372036854775808)
   (h:aa P n K l O (an e d (VN (a ^^^ b))) w):aa P n K (⟨i,true,⟨some d,.binOp .xor t x y yt,ty,pos,aft,gd⟩,g⟩::l) O e w:=wg hg hx hy hb.1 hb.2 (by simp) h
theorem yL {t yt:TypeId} {x y:Operand} {X Y:List af} {v:Bool} (hg:aI n e g=true) (hx:ev n e x= .string (bV X)) (hy:ev n e y= .string (bV Y)) (hv:decide (X=Y)=v)
   (h:aa P n K l O (an e d (.bool v)) w):aa P n K (⟨i,true,⟨some d,.binOp .eql t x y yt,ty,pos,aft,gd⟩,g⟩::l) O e w:=Ce hg hx hy (by rw [hv];exact h)
theorem e6 {t:TypeId} {x:Operand} {b len cap lo hi:Nat} {a:Option Addr} {X:List af} {low high:Option Operand} (hX:Bx L b a len cap X) (ha:dc P t 1=true) (hg:aI n e g=true) (hx:ev n e x= .slice a len cap)
   (j:match low with | some y=>∃k,ev n e y= .int k (lo:Int) | none=>lo=0) (m:match high with | some y=>∃k,ev n e y= .int k (hi:Int) | none=>hi=len) (hb:lo≤hi∧hi≤len)
   (h:∀c f,Bx L b c (aT X lo hi).length f (aT X lo hi)→aa P n K l O (an e d (.slice c (aT X lo hi).length f)) w):aa P n K (⟨i,true,⟨some d,.slice t x low high none,ty,pos,aft,gd⟩,g⟩::l) O e w:=by
 have h1:=hX.aT hb
 have h2:(aT X lo hi).length=hi - lo:=h1.hl
 refine gF ha hg hx j m (by have:=hX.le;omega) ?_
 rw [← h2] at h1 ⊢
 exact h _ _ h1
theorem c8 {t:TypeId} {x:Operand} {b o len lo hi m c o':Nat} {low high:Option Operand} (ha:du P t len 1=true) (hg:aI n e g=true) (hx:ev n e x= .pointer (some ⟨b,o,none⟩))
   (a:match low with | some y=>∃k,ev n e y= .int k (lo:Int) | none=>lo=0) (f:match high with | some y=>∃k,ev n e y= .int k (hi:Int) | none=>hi=len) (hb:lo≤hi∧hi≤len∧lo < len) (hm:hi - lo=m) (hc:len - lo=c) (ho:o+lo=o')
   (h:aa P n K l O (an e d (.slice (some ⟨b,o',none⟩) m c)) w):aa P n K (⟨i,true,⟨some d,.slice t x low high none,ty,pos,aft,gd⟩,g⟩::l) O e w:=
 EG ha hg hx a f hb (by rw [Nat.mul_one,hm,hc,ho];exact h)
theorem jH (t:St B w0 L w) {src dst el:TypeId} {x:Operand} {a:Option Addr} {o len c:Nat} {X:List af} (hX:Bx L o a len c X) (hs:P.underlying src=some (.slice el)) (he:P.underlying el=some (.int .u8)) (p:P.underlying dst=some .string) (hg:aI n e g=true)
   (hx:ev n e x= .slice a len c) (h:∀r:Rg,(r.n=0∨L[o]? =some r)→aa P n K l ((i,r.at)::O) (an e d (.string (bV X))) w):
   aa P n K (⟨i,true,⟨some d,.convert src dst x,ty,pos,aft,gd⟩,g⟩::l) O e w:=by
 obtain ⟨hl,hc,u⟩:=hX
 by_cases s:0 < len
 · obtain ⟨A,ms,f,os,ps,G,rw,h1,h2,h3,C,v⟩:=u s
   have k:=h _ (.inr h1)
   refine aa.held _ hg (t.mem h1) (fun w hw=>b8 ?_) k
   rw [hx]
   obtain ⟨b,hp,ha⟩:=h2 s
   subst ha
   refine run_convert_bytes_arg w src el hs he b os len c (X.map fun b=>(b.toNat:Int)) (by simpa using hl) (fun q hq=>?_) dst p
   obtain ⟨D,m,y⟩:=hw (f+q) (show f+q < ms by omega)
   simp only at m
   rw [hp] at m
   obtain rfl:=Option.some.inj m
   rw [h3,Nat.add_assoc]
   rw [y]
   show some (VU .u8 (G (f+q)))=_
   rw [← v q hq]
   congr 1
   unfold lit
   simp only [List.getD_eq_getElem?_getD,List.getElem?_map]
   rw [List.getElem?_eq_getElem (by omega)]
   simp
 · obtain rfl:len=0:=by omega
   obtain rfl:=List.length_eq_zero_iff.1 hl
   have k:=h ⟨none,0,0,fun _=>undef,true⟩ (.inl rfl)
   refine aa.held _ hg (fun j z=>absurd z (Nat.not_lt_zero j)) (fun w hw=>b8 ?_) k
   rw [hx,run_convert_bytes_string w src dst el _ 0 c hs he p]
   cases a <;> simp [Conv.bytesToString,loadCells]
   all_goals rfl
theorem j0 (a:St B w0 L w) {t:TypeId} {x y:Operand} {len c:Nat} {k f:IntKind} (he:eT P t=some (1,1,some (VU .u8 0#8))) (hg:aI n e g=true) (hx:ev n e x= .int k (len:Int)) (hy:ev n e y= .int f (c:Int)) (m:len≤c) (hc:c≤281474976710656)
   (hO:∀r,av aft O (r::L) O')
   (h:∀b w',B≤b→Ow (some ⟨b,0,none⟩) (some b) (List.replicate len 0#8).length c (fun _=>0#8) (List.replicate len 0#8)→St B w0 (⟨some b,0,c,fun q=>VU .u8 ((fun _=>0#8:Nat→af) q),true⟩::L) w'→aa P n K l O' (cv e (some d) (.slice (some ⟨b,0,none⟩) (List.replicate len 0#8).length c)) w'):
   aa P n K (⟨i,false,⟨some d,.makeSlice t x y,ty,pos,aft,gd⟩,g⟩::l) O e w:=by
 obtain ⟨el,inf,hu,hi,hs,o,p⟩:=hZ he
 have j:=run_make (P:=P) w t el inf _ hu hi p k f len c (Int.natCast_nonneg _) (by omega) (by rw [o];omega) (by omega)
 have hm:madeCells (VU .u8 0#8:Value).cells ((c:Int).toNat*inf.size)=(aS [(c,fun _=>VU .u8 0#8)]).toArray:=by
   rw [hs,Int.toNat_natCast,Nat.mul_one,eg]
   show madeCells #[VU .u8 0#8] c=_
   unfold madeCells
   apply Array.ext'
   apply List.ext_getElem?
   intro q
   by_cases hq:q < c
   · simp [hq,Nat.mod_one]
   · simp [hq]
 rw [hm] at j
 have s:Ow (some ⟨w.heap.size,0,none⟩) (some w.heap.size) (List.replicate len 0#8).length c (fun _=>0#8) (List.replicate len 0#8):=by
   refine ⟨.inr ⟨_,rfl,rfl⟩,by rw [List.length_replicate];exact m,rfl,fun q hq=>?_⟩
   unfold lit
   rw [List.getD_eq_getElem?_getD,List.getElem?_replicate]
   split <;> rfl
 refine gK (w':=w.alloc (.cells (aS [(c,fun _=>VU .u8 0#8)]).toArray el)) (v:= .slice (some ⟨w.heap.size,0,none⟩) (List.replicate len 0#8).length c) hg (b8 ?_) (a.alloc [(c,fun _=>VU .u8 0#8)] el) (hO _) (fun w' u=>h _ w' a.base s u)
 rw [hx,hy,j]
 simp
theorem Dl {t:TypeId} {x:Operand} {c m len cap:Nat} {a:Option Addr} {X:List af} {el:TypeId} (hX:Bx L c a len cap X) (hu:P.underlying t=some (.array m el)) (hg:aI n e g=true) (hx:ev n e x= .slice a len cap) (hm:0 < m∧m≤len)
   (h:aa P n K l O (an e d (.pointer a)) w):aa P n K (⟨i,true,⟨some d,.sliceToArrayPointer t x,ty,pos,aft,gd⟩,g⟩::l) O e w:=by
 obtain ⟨hl,hc,f⟩:=hX
 obtain ⟨j,ms,k,os,ps,G,rw,h1,h2,h3,p,q⟩:=f (by omega)
 obtain ⟨b,hp,ha⟩:=h2 (by omega)
 subst ha
 exact Fi (o:=os) (b:=b) hu hg hx (fun _=>⟨b,rfl,rfl⟩) hm h
theorem sZ (j:St B w0 L w) {t:TypeId} {x:Operand} {c m len cc:Nat} {a:Option Addr} {X:List af} (hX:Bx L c a len cc X) (hg:aI n e g=true) (hx:ev n e x= .pointer a) (hm:0 < m∧m≤len) (k:cz P t m=true)
   (h:∀r,L[c]? =some r→aa P n K l ((i,r.at)::O) (an e d (AG [(m,fun q=>VU .u8 (lit X q))])) w):aa P n K (⟨i,true,⟨some d,.load t x,ty,pos,aft,gd⟩,g⟩::l) O e w:=by
 obtain ⟨hl,hc,o⟩:=hX
 obtain ⟨v,ms,f,os,ps,G,rw,h1,h2,h3,y,p⟩:=o (by omega)
 obtain ⟨b,hp,ha⟩:=h2 (by omega)
 subst ha hp
 refine lf j c f hg hx h1 h3 (by omega) k ?_
 have s:=h _ h1
 have u:AG [(m,fun q=>VU .u8 (G (f+q)))]=AG [(m,fun q=>VU .u8 (lit X q))]:=by
   unfold AG
   rw [eg,eg]
   congr 2
   exact List.map_congr_left fun q hq=>by rw [p q (by have:=List.mem_range.1 hq;omega)]
 rw [u]
 exact s
def gZ (P:Program) (t:Nat):Bool:=match P.underlying t with
 | some (.struct fs)=>fs.toList.all fun f=>match P.info? f.type with | some i=>decide (i.size < 1000000) | none=>false
 | some (.array _ el)=>(match P.info? el with | some i=>i.size < 1000000 | none=>false)
 | _=>false
theorem fY {t:TypeId} {zps:List (Nat×(Nat→Value))} (a:gZ P t=true) (b:cM P t zps) (hg:aI n e g=true)
   (h:aa P n K l O (an e d (AG zps)) w):aa P n K (⟨i,true,⟨some d,.build t #[],ty,pos,aft,gd⟩,g⟩::l) O e w:=by
 cases hu:P.underlying t with
 | none=>unfold gZ at a;rw [hu] at a;cases a
 | some u=>
   unfold gZ at a
   rw [hu] at a
   cases u with
   | array len el=>
     cases hi:P.info? el with
     | none=>simp only [hi] at a;cases a
     | some inf=>exact gu (len:=len) (sz:=inf.size) (zps:=zps) (ps:=zps) (vs:= []) (by unfold du;rw [hu];simp [bN,hi]) b hg rfl rfl h
   | struct fs=>
     refine wc (zps:=zps) (ps:=zps) (vs:= []) (pl:=fs.toList.map (fun f=>(f.offset,match P.info? f.type with | some i=>i.size | none=>1000000007))) (by unfold e2;rw [hu];exact beq_self_eq_true _) ?_ b hg rfl rfl h
     simp only [List.all_eq_true] at a
     simp only [List.all_eq_true,List.mem_map]
     rintro q ⟨f,hf,rfl⟩
     have h1:=a f hf
     cases hi:P.info? f.type with
     | none=>rw [hi] at h1;cases h1
     | some inf=>rw [hi] at h1;simpa using h1
   | _=>cases a
theorem DQ {f:FuncId} {captured:Array Operand} {cs:List Value} (hg:aI n e g=true) (hc:captured.toList.map (ev n e)=cs) (h:aa P n K l O (an e d (.func (.func f) #[] cs.toArray)) w):
   aa P n K (⟨i,true,⟨some d,.makeFunc (.func f) #[] captured,ty,pos,aft,gd⟩,g⟩::l) O e w:=
 aa.val hg (fun w=>b8 (by
   have:captured.map (ev n e)=cs.toArray:=by rw [← hc,← Array.toList_map]
   rw [this];simp [Instr.makeFunc])) h
theorem Ac {x:Operand} {f:FuncId} {ρ:Operand→Value} {args:Array Operand} {at':Array TypeId} {dst:Option Tmp} {cs:Array Value} (a:bc P f=true) (hx:ρ x= .func (.func f) #[] cs) (w:World):
   (execOp ρ ⟨dst,.call ⟨.value x,args,at'⟩,ty,pos,aft,gd⟩).run P w= .ok (.enter f (args.map ρ ++cs)) w:=by
 unfold bc at a
 cases hf:P.funcs[f]? with
 | none=>rw [hf] at a;cases a
 | some fn=>
   rw [hf] at a
   simp only [Bool.and_eq_true,Bool.not_eq_true'] at a
   simp only [execOp,resolve,hx,Deferred.ofValue,Sem.run_bind,Sem.run_pure,Result.andThen,invoke,callFunc,run_program,hf,a.1,a.2,Bool.false_eq_true,if_false]
   simp
theorem nH {x:Operand} {f:FuncId} {args:Array Operand} {at':Array TypeId} {dst:Option Tmp} {vs cs:List Value} {R:Ending→World→Prop} (hx:ev n e x= .func (.func f) #[] cs.toArray) (hg:aI n e g=true) (b:bc P f=true) (c:args.toList.map (ev n e)=vs)
   (hc:Calls P f (vs ++cs).toArray w R)
   (d:∀a w',R a w'→∃v,a= .returned v∧(((∀p∈O,p.2 w→p.2 w')∧aa P n K l O (cv e dst v) w')∨(O.all (fun p=>cF ⟨dst,.call ⟨.value x,args,at'⟩,ty,pos,aft,gd⟩ p.1)=true∧aa P n K l [] (cv e dst v) w'))):
   aa P n K (⟨i,false,⟨dst,.call ⟨.value x,args,at'⟩,ty,pos,aft,gd⟩,g⟩::l) O e w:=by
 refine dR hg ?_
 rw [Ac (P:=P) b hx w]
 show Calls P f (args.map (ev n e) ++cs.toArray) w _
 have:args.map (ev n e) ++cs.toArray=(vs ++cs).toArray:=by
   rw [← c,List.append_toArray,← Array.toList_map]
 rw [this]
 exact hc.mono d
end step
end Go.LW
namespace Go.LW
set_option linter.unusedSimpArgs false
set_option linter.unusedVariables false
set_option linter.unusedSectionVars false
open Go Go.RowKit
section step
variable {P:Program} {n:Nat} {K:aW→Env→World→Prop} {l:List It} {O O':aW} {e:Env} {w:World} {i ty:Nat} {d:Tmp} {pos:String} {aft:Array Edge} {gd g:Option (Nat×Bool)}
variable {B:Nat} {w0:aC} {L L':List Rg}
theorem AA {t:TypeId} {m:Nat} (a:cz P t m=true) (w:World):(isAgg t).run P w= .ok true w:=by
 obtain ⟨b,hu,c,_⟩:=n0 a
 unfold isAgg
 rw [Sem.run_bind,run_underlying hu w]
 cases b <;> first | rfl | cases c
theorem EW {t:TypeId} (a:dC P t=true) (w:World):(isAgg t).run P w= .ok false w:=by
 unfold dC at a
 unfold isAgg
 cases hu:P.underlying t with
 | none=>rw [hu] at a;cases a
 | some b=>
   rw [Sem.run_bind,run_underlying hu w]
   rw [hu] at a
   cases b <;> first | rfl | cases a
theorem uv {t:TypeId} {m:Nat} (a:cz P t m=true):bN P t m=true:=by
 unfold cz at a;unfold bN
 simp only [Bool.and_eq_true] at a;exact a.2
theorem ER (A C D:List Value):(A ++C ++D).toArray.extract A.length (A.length+C.length)=C.toArray:=by
 apply Array.ext'
 rw [List.append_assoc]
 simp
theorem tK {t:TypeId} {m:Nat} (a:cz P t m=true) {cs A C D:List Value} (hc:cs=A ++C ++D) (hm:C.length=m) (w:World):(part t cs.toArray A.length).run P w= .ok (.agg C.toArray) w:=by
 subst hc
 unfold part
 rw [Sem.run_bind,AA a w]
 simp only [Result.andThen,if_true]
 rw [Sem.run_bind,et (uv a) w]
 simp only [Result.andThen,Sem.run_pure]
 rw [← hm,ER]
theorem Gt (a b c:Nat) (f:Nat→Value):(List.range (a+b+c)).map f=(List.range a).map f ++(List.range b).map (fun q=>f (a+q)) ++(List.range c).map (fun q=>f (a+b+q)):=by
 rw [List.range_add,List.range_add,List.map_append,List.map_append,List.map_map,List.map_map];rfl
theorem xK {x y:Operand} {t:TypeId} {len m j sz:Nat} {f:Nat→Value} {k:IntKind} {el:TypeId} (hu:P.underlying t=some (.array len el)) (hs:cz P el sz=true) (hg:aI n e g=true)
   (hx:ev n e x=AG [(m,f)]) (hy:ev n e y= .int k (j:Int)) (a:j < len) (hm:len*sz≤m) (h:aa P n K l O (an e d (AG [(sz,fun q=>f (j*sz+q))])) w):aa P n K (⟨i,true,⟨some d,.index t x y,ty,pos,aft,gd⟩,g⟩::l) O e w:=
 aa.val hg (fun w=>b8 (by
   rw [hx,hy]
   have hc:(0:Int)≤(j:Int)∧(j:Int) < (len:Int):=by omega
   have h1:j*sz+sz≤m:=Nat.le_trans (by rw [← Nat.succ_mul];exact Nat.mul_le_mul_right _ a) hm
   have hp:=tK hs (cs:=aS [(m,f)]) (A:=(List.range (j*sz)).map f) (C:=(List.range sz).map fun q=>f (j*sz+q)) (D:=(List.range (m - (j*sz+sz))).map fun q=>f (j*sz+sz+q)) (by
     rw [eg,← Gt];congr 2;omega) (by simp) w
   simp only [List.length_map,List.length_range] at hp
   simp only [AG,Instr.index,asIntOf,Sem.run_bind,Sem.run_pure,Result.andThen,run_underlying hu w,if_pos hc,et (uv hs),Int.toNat_natCast]
   rw [hp,eg])) h
theorem ix (A C:List (Nat×(Nat→Value))):aS (A ++C)=aS A ++aS C:=by unfold aS;rw [List.flatMap_append]
def bR (L:List Rg) (e:Nat) (a:Option Addr) (len cc:Nat) (X:List (List af)):Prop:=
 X.length=len∧len≤cc∧(0 < len→∃(d ms c b:Nat) (A:Nat→Option Addr) (N C:Nat→Nat) (rw:Bool),L[e]? =some ⟨some b,d,ms,fun q=> .slice (A q) (N q) (C q),rw⟩∧a=some ⟨b,d+c,none⟩∧c+len≤ms∧∀q,q < len→∃f,Bx L f (A (c+q)) (N (c+q)) (C (c+q)) (X.getD q []))
theorem bR.hl {L:List Rg} {b:Nat} {a:Option Addr} {len cc:Nat} {X:List (List af)} (h:bR L b a len cc X):X.length=len:=h.1
theorem bR.nil {L:List Rg} (b:Nat) {a:Option Addr} {cc:Nat}:bR L b a 0 cc []:=⟨rfl,Nat.zero_le _,fun h=>absurd h (Nat.lt_irrefl 0)⟩
theorem bR.app {L:List Rg} {c:Nat} {a:Option Addr} {len cc:Nat} {X:List (List af)} (h:bR L c a len cc X) (D:List Rg):bR (D ++L) (c+D.length) a len cc X:=by
 obtain ⟨hl,hc,h⟩:=h
 refine ⟨hl,hc,fun d=>?_⟩
 obtain ⟨e,ms,f,b,A,N,C,rw,h1,h2,h3,g⟩:=h d
 refine ⟨e,ms,f,b,A,N,C,rw,?_,h2,h3,fun q hq=>?_⟩
 · rw [List.getElem?_append_right (by omega),Nat.add_sub_cancel];exact h1
 · obtain ⟨i,hy⟩:=g q hq;exact ⟨_,hy.app D⟩
theorem bR.of {L:List Rg} (k:Nat) {b m:Nat} {A:Nat→Option Addr} {N C:Nat→Nat} {rw:Bool} {X:List (List af)} (h:L[k]? =some ⟨some b,0,m,fun q=> .slice (A q) (N q) (C q),rw⟩) (hl:X.length=m) (hx:∀q,q < m→∃a,Bx L a (A q) (N q) (C q) (X.getD q [])):bR L k (some ⟨b,0,none⟩) m m X:=
 ⟨hl,Nat.le_refl _,fun _=>⟨0,m,0,b,A,N,C,rw,h,rfl,by omega,fun q hq=>by rw [Nat.zero_add];exact hx q hq⟩⟩
theorem k3 {t:TypeId} {x y:Operand} {k:IntKind} {c len cc j:Nat} {a:Option Addr} {X:List (List af)} (hX:bR L c a len cc X) (ha:dc P t 1=true) (hg:aI n e g=true) (hx:ev n e x= .slice a len cc) (hy:ev n e y= .int k (j:Int)) (f:j < len)
   (h:aa P n K l O (an e d (.pointer (a.map fun z=>⟨z.block,z.off+j,none⟩))) w):aa P n K (⟨i,true,⟨some d,.indexAddr t x y,ty,pos,aft,gd⟩,g⟩::l) O e w:=by
 obtain ⟨hl,hc,hX⟩:=hX
 obtain ⟨m,ms,o,b,A,N,C,rw,h1,h2,h3⟩:=hX (by omega)
 subst h2
 exact u9 ha hg hx hy f h
theorem k0 {D:List Rg} (v:St B w0 (D ++L) w) {t:TypeId} {x:Operand} {c len cc j:Nat} {a:Option Addr} {X:List (List af)} (hX:bR L c a len cc X) (hg:aI n e g=true) (hx:ev n e x= .pointer (a.map fun z=>⟨z.block,z.off+j,none⟩)) (y:j < len) (E:dC P t=true)
   (h:∀r f m o,(D ++L)[c+D.length]? =some r→Bx L f m (X.getD j []).length o (X.getD j [])→aa P n K l ((i,r.at)::O) (an e d (.slice m (X.getD j []).length o)) w):aa P n K (⟨i,true,⟨some d,.load t x,ty,pos,aft,gd⟩,g⟩::l) O e w:=by
 obtain ⟨hl,hc,hX⟩:=hX
 obtain ⟨p,ms,k,b,A,N,C,rw,h1,h2,h3,F⟩:=hX (by omega)
 subst h2
 obtain ⟨f,hy⟩:=F j y
 have G:ev n e x= .pointer (some ⟨b,p+(k+j),none⟩):=by rw [hx,← Nat.add_assoc];rfl
 have s:(D ++L)[c+D.length]? =some ⟨some b,p,ms,fun q=> .slice (A q) (N q) (C q),rw⟩:=by rw [List.getElem?_append_right (by omega),Nat.add_sub_cancel];exact h1
 refine bk v _ hg G s (by omega) E ?_
 have u:=hy.hl
 have:=h _ f (A (k+j)) (C (k+j)) s (by rw [← u] at hy;exact hy)
 rw [u] at this
 exact this
theorem BS (Y:List Value):∀(A Z C:List Value),Y.length=Z.length→jQ (A ++Z ++C) A.length Y=A ++Y ++C:=by
 induction Y with
 | nil=>intro A Z C h;obtain rfl:=List.length_eq_zero_iff.1 h.symm;rfl
 | cons y Y a=>
   intro A Z C h
   cases Z with
   | nil=>simp at h
   | cons z Z=>
     have h1:(A ++z::Z ++C).set A.length y=(A ++ [y]) ++Z ++C:=by simp
     show jQ ((A ++z::Z ++C).set A.length y) (A.length+1) Y=_
     rw [h1]
     have h2:=a (A ++ [y]) Z C (by simpa using h)
     rw [List.length_append] at h2
     rw [show A.length+1=A.length+ [y].length from rfl,h2]
     simp
abbrev PS:=List (Nat×(Nat→Value))
inductive iI (pl:List (Nat×Nat)):PS→List (Nat×Value)→PS→Prop
 | nil {z:PS}:iI pl z [] z
 | agg {i:Nat} {r:List (Nat×Value)} {ps:PS} (A Z C Y:PS) (h:pl[i]? =some ((A.map (·.1)).sum,(Z.map (·.1)).sum)) (hs:(Y.map (·.1)).sum=(Z.map (·.1)).sum) (t:iI pl (A ++Y ++C) r ps):iI pl (A ++Z ++C) ((i,AG Y)::r) ps
 | one {i:Nat} {r:List (Nat×Value)} {ps:PS} {v:Value} (A C:PS) (F:Nat→Value) (h:pl[i]? =some ((A.map (·.1)).sum,1)) (hv:fD v= [v]) (t:iI pl (A ++ [(1,fun _=>v)] ++C) r ps):iI pl (A ++ [(1,F)] ++C) ((i,v)::r) ps
theorem so {place:Nat→Option (Nat×Nat)} {A Z C Y:List Value} {i:Nat} {v:Value} {r:List (Nat×Value)} (h:place i=some (A.length,Z.length)) (hs:Y.length=Z.length) (hv:fD v=Y):eF place (A ++Z ++C) ((i,v)::r)=eF place (A ++Y ++C) r:=by
 simp only [eF,h,hv]
 have h1:(Nat.beq Y.length Z.length && Nat.ble (A.length+Z.length) (A ++Z ++C).length)=true:=by
   simp only [Bool.and_eq_true,Nat.beq_eq,Nat.ble_eq,List.length_append];omega
 rw [h1,BS Y A Z C hs];rfl
theorem iI.fill {pl:List (Nat×Nat)} {z ps:PS} {vs:List (Nat×Value)} (h:iI pl z vs ps):eF (fun i=>pl[i]?) (aS z) vs=some (aS ps):=by
 induction h with
 | nil=>rfl
 | agg A Z C Y h hs t a=>
   rw [ix,ix] at a ⊢
   rw [so (Y:=aS Y) (by rw [h,fj,fj]) (by rw [fj,fj,hs]) rfl]
   exact a
 | @one i r ps v A C F h hv t a=>
   rw [ix,ix] at a ⊢
   rw [so (A:=aS A) (Z:=aS [(1,F)]) (C:=aS C) (Y:=aS [(1,fun _=>v)]) (place:=fun i=>pl[i]?) (by simp only [h,fj];rfl) rfl (by rw [hv];rfl)]
   exact a
theorem dt {t:TypeId} {parts:Array (Nat×Operand)} {pl:List (Nat×Nat)} {zps ps:List (Nat×(Nat→Value))} {vs:List (Nat×Value)} (ha:e2 P t pl=true) (a:pl.all (fun q=>q.2 < 1000000)=true) (b:cM P t zps) (hg:aI n e g=true)
   (hv:parts.toList.map (fun p=>(p.1,ev n e p.2))=vs) (c:iI pl zps vs ps)
   (h:aa P n K l O (an e d (AG ps)) w):aa P n K (⟨i,true,⟨some d,.build t parts,ty,pos,aft,gd⟩,g⟩::l) O e w:=wc ha a b hg hv c.fill h
theorem Bx.move {L L':List Rg} {i j:Nat} {r:Rg} {a:Option Addr} {len cc:Nat} {X:List af} (h:Bx L i a len cc X) (hi:L[i]? =some r) (b:L'[j]? =some r):Bx L' j a len cc X:=by
 obtain ⟨hl,hc,h⟩:=h
 refine ⟨hl,hc,fun c=>?_⟩
 obtain ⟨d,ms,e,os,ps,G,rw,h1,h2⟩:=h c
 rw [hi] at h1
 exact ⟨d,ms,e,os,ps,G,rw,b.trans h1,h2⟩
theorem Gb {at':Array TypeId} {x y:Operand} {a b:Int} (hg:aI n e g=true) (hx:ev n e x= .int .i64 a) (hy:ev n e y= .int .i64 b) (h:aa P n K l O (an e d (.int .i64 (min a b))) w):
   aa P n K (⟨i,true,⟨some d,.call ⟨.builtin .min,#[x,y],at'⟩,ty,pos,aft,gd⟩,g⟩::l) O e w:=
 aa.val hg (fun w=>rM (P:=P) fun cs=>by
   rw [hx,hy]
   simp only [builtin,Sem.run_bind,Builtin.min_,List.foldlM_cons,List.foldlM_nil,Builtin.min2,Sem.run_pure,Result.andThen_ok]
   have c:(if (b < a) then b else a)=min a b:=by split <;> omega
   simp [c]) h
theorem ju (f:St B w0 L w) {t:TypeId} {x y:Operand} {k:IntKind} {b len cc j:Nat} {a:Option Addr} {X:List af} (hX:Bx L b a len cc X) (ha:dc P t 1=true) (hg:aI n e g=true) (hx:ev n e x= .slice a len cc) (hy:ev n e y= .int k (j:Int)) (c:j < len)
   (h:aa P n K l O (an e d (.pointer (a.map fun z=>⟨z.block,z.off+j,none⟩))) w):aa P n K (⟨i,true,⟨some d,.indexAddr t x y,ty,pos,aft,gd⟩,g⟩::l) O e w:=BP hX ha hg hx hy c h
theorem sW (c:St B w0 L w) {t:TypeId} {x:Operand} {b m len cap:Nat} {a:Option Addr} {X:List af} {el:TypeId} (hX:Bx L b a len cap X) (hu:P.underlying t=some (.array m el)) (hg:aI n e g=true) (hx:ev n e x= .slice a len cap) (hm:0 < m∧m≤len)
   (h:aa P n K l O (an e d (.pointer a)) w):aa P n K (⟨i,true,⟨some d,.sliceToArrayPointer t x,ty,pos,aft,gd⟩,g⟩::l) O e w:=Dl hX hu hg hx hm h
theorem Az {at':Array TypeId} {x y:Operand} {a b:Int} (hg:aI n e g=true) (hx:ev n e x= .int .i64 a) (hy:ev n e y= .int .i64 b) (h:aa P n K l O (an e d (.int .i64 (max a b))) w):
   aa P n K (⟨i,true,⟨some d,.call ⟨.builtin .max,#[x,y],at'⟩,ty,pos,aft,gd⟩,g⟩::l) O e w:=
 aa.val hg (fun w=>rM (P:=P) fun cs=>by
   rw [hx,hy]
   simp only [builtin,Sem.run_bind,Builtin.max_,List.foldlM_cons,List.foldlM_nil,Builtin.max2,Sem.run_pure,Result.andThen_ok]
   have c:(if (b > a) then b else a)=max a b:=by split <;> omega
   simp [c]) h
theorem Cm {t yt:TypeId} {x y:Operand} {a:Int} (k:Nat) (hk:k < 63) (hg:aI n e g=true) (hx:ev n e x= .int .i64 a) (hy:ev n e y= .int .i64 ((2 ^ k - 1:Nat):Int))
   (h:aa P n K l O (an e d (.int .i64 (a % ((2 ^ k:Nat):Int)))) w):aa P n K (⟨i,true,⟨some d,.binOp .and t x y yt,ty,pos,aft,gd⟩,g⟩::l) O e w:=
 aa.val hg (fun w=>hU hx hy (by
   have hp:(2:Nat) ^ k≤2 ^ 62:=Nat.pow_le_pow_right (by omega) (by omega)
   have j:0 < (2:Nat) ^ k:=Nat.pow_pos (by omega)
   simp only [binOp,ne_eq,not_true_eq_false,if_false,Op.intBits,BitVec.ofInt_natCast]
   have b:(BitVec.ofNat 64 (2 ^ k - 1)).toNat=2 ^ k - 1:=by simp only [BitVec.toNat_ofNat];omega
   have c:((BitVec.ofInt 64 a &&& BitVec.ofNat 64 (2 ^ k - 1)).toNat:Int)=a % ((2 ^ k:Nat):Int):=by
     rw [BitVec.toNat_and,b,Nat.and_two_pow_sub_one_eq_mod,BitVec.toNat_ofInt]
     have f:0≤a % ((2 ^ 64:Nat):Int):=Int.emod_nonneg _ (by decide)
     rw [Int.natCast_emod,Int.toNat_of_nonneg f]
     refine Int.emod_emod_of_dvd a ?_
     have:(2 ^ k:Nat) ∣ 2 ^ 64:=Nat.pow_dvd_pow 2 (by omega)
     exact Int.natCast_dvd_natCast.2 this
   show (Sem.pure (Value.int .i64 (IntKind.i64.wrap ((BitVec.ofInt 64 a &&& BitVec.ofNat 64 (2 ^ k - 1)).toNat:Int)))).run P w=_
   rw [c,fK _ (by
     have h1:=Int.emod_nonneg a (show ((2 ^ k:Nat):Int)≠0 by omega)
     have h2:=Int.emod_lt_of_pos a (show (0:Int) < ((2 ^ k:Nat):Int) by omega)
     omega)]
   rfl)) h
end step
end Go.LW
namespace Go.LW
set_option linter.unusedSimpArgs false
set_option linter.unusedVariables false
set_option linter.unusedSectionVars false
open Go Go.RowKit
theorem rl {k:IntKind} {s:Nat} (hk:UK k s) {n:Int} (h:k.has n):n=((BitVec.ofInt s n).toNat:Int):=by
 have h1:0≤n∧n < (2 ^ s:Nat):=by
   cases hk <;> simp [IntKind.has,IntKind.min,IntKind.max,IntKind.signed,IntKind.bits] at h <;> omega
 rw [BitVec.toNat_ofInt,Int.emod_eq_of_lt h1.1 h1.2,Int.toNat_of_nonneg h1.1]
theorem ob {P:Program} {w:World} {r:Reach} {base:Nat} {t:TypeId} {v:Value} {k:IntKind} (hu:P.underlying t=some (.int k)) (h:Cell.okWide P w r base t v):∃n,v= .int k n∧k.has n:=by
 unfold Cell.okWide at h
 rw [hu] at h
 cases v <;> simp [Cell.ok,hu] at h
 obtain ⟨rfl,h⟩:=h
 exact ⟨_,rfl,h⟩
theorem xx {P:Program} {w:World} {r:Reach} {base:Nat} {t:TypeId} {v:Value} {k:IntKind} (hu:P.underlying t=some (.int k)) (h:Value.okWide P w r base t v):∃n,v= .int k n∧k.has n:=by
 unfold Value.okWide at h
 rw [hu] at h
 exact ob hu h
theorem vR {P:Program} {w:World} {r:Reach} {base:Nat} {t u e n:Nat} {v:Value} {k:IntKind} {s m:Nat} (hk:UK k s) (hu:P.underlying t=some (.array n e)) (d:P.cellTypes P.depth t=some (List.replicate m u)) (hc:P.cellsOf t=m) (f:P.underlying u=some (.int k))
   (h:Value.okWide P w r base t v):∃F:Nat→BitVec s,v=AG [(m,fun q=>VU k (F q))]:=by
 unfold Value.okWide at h
 rw [hu] at h
 obtain ⟨cs,rfl,g,ts,a,_,j⟩:=h
 rw [d] at a
 obtain rfl:=Option.some.inj a
 rw [hc] at g
 have b:∀i,i < m→∃x:BitVec s,cs[i]? =some (VU k x):=fun i hi=>by
   have h1:cs[i]? =some (cs[i]'(by omega)):=Array.getElem?_eq_getElem (by omega)
   obtain ⟨A,c,l⟩:=j i _ h1
   rw [List.length_replicate,Nat.mod_eq_of_lt hi,List.getElem?_replicate,if_pos hi] at c
   obtain rfl:=Option.some.inj c
   obtain ⟨o,p,y⟩:=ob f l
   exact ⟨BitVec.ofInt s o,by rw [h1,p];exact congrArg (fun z=>some (Value.int k z)) (rl hk y)⟩
 let F:Nat→BitVec s:=fun q=>if hq:q < m then (b q hq).choose else 0#s
 refine ⟨F,?_⟩
 unfold AG
 rw [eg]
 congr 1
 apply Array.ext_getElem?
 intro q
 by_cases hq:q < m
 · rw [(b q hq).choose_spec]
   simp [hq,F]
 · rw [Array.getElem?_eq_none (by omega)]
   simp [hq]
theorem gp.bx {B:Nat} {w0:aC} {w:World} {L:List Rg} {a:Option Addr} {len cap:Nat} {zs:List Int} (c:gp .u8 w a len cap zs) (h:St B w0 L w) (d:c5 L):∃(r:Rg) (X:List af) (b:Nat),St B w0 (r::L) w∧c5 (r::L)∧Bx (r::L) b a len cap X:=by
 obtain ⟨r,h1,h2,h3⟩:=c.bytes h d
 obtain ⟨X,hl,e⟩:=h3.list
 obtain ⟨b,f⟩:=e.bx hl
 exact ⟨r,X,b,h1,h2,f⟩
end Go.LW
namespace Go.LW
set_option linter.unusedSimpArgs false
set_option linter.unusedVariables false
set_option linter.unusedSectionVars false
open Go Go.RowKit
section step
variable {P:Program} {n:Nat} {K:aW→Env→World→Prop} {l:List It} {O O':aW} {e:Env} {w:World} {i ty:Nat} {d:Tmp} {pos:String} {aft:Array Edge} {gd g:Option (Nat×Bool)}
variable {B:Nat} {w0:aC} {L L':List Rg}
def eU (n:Nat):ByteArray:=⟨(Array.replicate n 0)⟩
theorem uh (n:Nat):byteCells (eU n)=(List.range (n*1)).map fun _=>VU .u8 0#8:=by
 unfold byteCells eU
 simp
 apply List.ext_getElem?
 intro q
 simp [List.getElem?_replicate]
 by_cases hq:q < n <;> simp [hq]
theorem zP {t n o ty:TypeId} (he:kI P t 1 1 (VU .u8 0#8)) (e:P.underlying n=some (.int .i64)) (f:P.underlying o=some .string) {a:Option Addr} {len cap m:Nat} (z:len≤cap) (hb:len+m≤140737488355328) (w:World):
   (Builtin.append_ #[t,n] ty #[.slice a len cap,VN m]).run P w=(Builtin.append_ #[t,o] ty #[.slice a len cap,.string (eU m)]).run P w:=by
 obtain ⟨el,inf,hu,hi,g,c,u⟩:=he
 have hw:IntKind.i64.wrap (m:Int)=m:=fK _ (by omega)
 have h:(eU m).size=m:=by simp [eU,ByteArray.size]
 have i:(Builtin.firstCells 1 m (.string (eU m)))=(if m*1=0 then (pure #[]:Sem (Array Value)) else pure (Builtin.zeroCells (VU .u8 0#8:Value).cells m)):=by
   have h1:=uh m
   unfold byteCells at h1
   have h2:((eU m).extract 0 m)=eU m:=by
     apply ByteArray.ext
     simp [eU]
   show (pure (((eU m).extract 0 m).data.map fun b=>Value.int .u8 (b.toNat:Int)):Sem (Array Value))=_
   rw [h2]
   have h3:((eU m).data.map fun b=>Value.int .u8 (b.toNat:Int))=(Builtin.zeroCells (VU .u8 0#8:Value).cells m):=by
     apply Array.ext'
     rw [Array.toList_map,h1]
     show _=(Builtin.zeroCells #[VU .u8 0#8] m).toList
     unfold Builtin.zeroCells
     simp only [Array.toList_map,Array.toList_range]
     refine List.map_congr_left fun q _=>?_
     simp [Nat.mod_one]
   split
   · rename_i A
     obtain rfl:m=0:=by omega
     simp [eU]
   · rw [h3]
 have j:∀w:World,(asInt (VN m)).run P w= .ok (m:Int) w:=fun _=>rfl
 have k:∀w:World,(zeroValue el).run P w= .ok (VU .u8 0#8) w:=fun w=>h6 (by rw [hi];exact u) w
 have p:¬((m:Int) < 0):=by omega
 have r:¬(281474976710656 < (m:Int)):=by omega
 have s:¬(9223372036854775807 < (len:Int)+(m:Int)):=by omega
 have v:IntKind.i64.wrap 0=0:=by decide
 by_cases l:m=0
 · subst l
   by_cases d:len≤cap
   · simp [Builtin.append_,run_underlying hu,run_underlying e,run_underlying f,sizeOf,typeInfo,hi,g,c,j,Builtin.lenOf,h,hw,v,i,d,k]
   · omega
 · by_cases d:len+m≤cap
   · simp [Builtin.append_,run_underlying hu,run_underlying e,run_underlying f,sizeOf,typeInfo,hi,g,c,j,Builtin.lenOf,h,hw,i,d,k,p,r,s,l]
   · have x:=growslice_fits (need:=len+m) (old:=cap) (bytes:=inf.bytes) (by omega) (by rw [c];omega)
     have y:¬(281474976710656 < Builtin.nextslicecap (len+m) cap):=by rw [c] at x;omega
     simp [Builtin.append_,run_underlying hu,run_underlying e,run_underlying f,sizeOf,typeInfo,hi,g,c,j,Builtin.lenOf,h,hw,i,d,k,p,r,s,y,l]
theorem Co (A:St B w0 L w) {t o p:TypeId} {x y:Operand} {len cap m:Nat} {a:Option Addr} {pb:Option Nat} {F:Nat→af} {X:List af} (k:Nat) (hO:Ow a pb len cap F X) (he:eT P t=some (1,1,some (VU .u8 0#8))) (C:P.underlying o=some (.int .i64)) (u:P.underlying p=some .string) (hg:aI n e g=true)
   (hx:ev n e x= .slice a len cap) (hy:ev n e y=VN m) (D:L[k]? =some ⟨pb,0,cap,fun q=>VU .u8 (F q),true⟩) (hb:len+m≤140737488355328)
   (hw:∀r,av aft O (L.set k r) O')
   (h:∀f j b (F':Nat→af) w',Ow f j (X ++List.replicate m 0#8).length b F' (X ++List.replicate m 0#8)→St B w0 (L.set k ⟨j,0,b,fun q=>VU .u8 (F' q),true⟩) w'→aa P n K l O' (cv e (some d) (.slice f (X ++List.replicate m 0#8).length b)) w'):
   aa P n K (⟨i,false,⟨some d,.call ⟨.builtin .append,#[x,y],#[t,o]⟩,ty,pos,aft,gd⟩,g⟩::l) O e w:=by
 have E:Src P 1 p (.string (eU m)) m ((List.range (m*1)).map fun q=>VU .u8 ((fun _=>0#8:Nat→af) q)) w:=by
   have h1:=Src.ofString (P:=P) w u (eU m)
   rw [uh,show (eU m).size=m by simp [eU,ByteArray.size]] at h1
   exact h1
 obtain ⟨w',f,j,b,ip,G,fi,H,z⟩:=vq (P:=P) (ty:=ty) (s:=1) (zf:=fun _=>VU .u8 0#8) A (hZ he) rfl (fun q hq=>by cases Nat.lt_one_iff.1 hq;rfl) (by rw [Nat.mul_one];exact D) hO.ho E hO.hc (by omega) (by omega)
 have I:(fun q=>if ip=true∨q < (len+m)*1 then bh (fun q=>VU .u8 (F q)) (len*1) (m*1) (fun q=>VU .u8 ((fun _=>0#8:Nat→af) q)) q else VU .u8 0#8)=fun q=>VU .u8 (if ip=true∨q < len+m then bh F len m (fun _=>0#8) q else 0#8):=by
   funext q
   simp only [Nat.mul_one,← o1]
   split <;> rfl
 rw [I,Nat.mul_one] at z
 have hl:(X ++List.replicate m 0#8).length=len+m:=by rw [List.length_append,List.length_replicate,hO.hl]
 refine gK hg (w':=w') (v:= .slice f (len+m) b) (kn fun c=>?_) z (hw _) fun w' J=>?_
 · rw [hx,hy]
   simp only [builtin,Sem.run_bind,zP (hZ he) C u hO.hc hb,G]
   rfl
 · rw [← hl]
   refine h f j b _ w' ⟨fi,by rw [hl];exact H,rfl,fun q hq=>?_⟩ J
   rw [hl] at hq
   rw [if_pos (.inr hq),sF,hO.hl]
   by_cases h2:q < len
   · rw [if_pos h2,c7 _ _ _ _ _ (by omega),hO.hF q h2]
   · rw [if_neg h2,eh _ _ _ _ _ (by omega)]
     unfold lit
     rw [List.getD_eq_getElem?_getD,List.getElem?_replicate]
     split <;> rfl
theorem St.shrink (h:St B w0 L w) {k m' m:Nat} {p:Option Nat} {off:Nat} {f:Nat→Value} {c:Bool} (d:L[k]? =some ⟨p,off,m,f,c⟩) (hm:m'≤m):St B w0 (L.set k ⟨p,off,m',f,c⟩) w:=by
 obtain ⟨hk,e⟩:=List.getElem?_eq_some_iff.1 d
 refine ⟨h.below,h.base,fun r a=>?_,fun r a=>?_,?_⟩
 · rcases List.mem_or_eq_of_mem_set a with h1 | rfl
   · exact h.at_ r h1
   · intro j b
     have:=h.mem d j (show j < m by simp only at b;omega)
     exact this
 · rcases List.mem_or_eq_of_mem_set a with h1 | rfl
   · exact h.free r h1
   · intro g j b
     have:=h.free _ (List.mem_of_getElem? d) g j (show j < m by simp only at b;omega)
     exact this
 · rw [List.pairwise_iff_getElem]
   intro i j hi b l
   have hp:=List.pairwise_iff_getElem.1 h.apart i j (by simpa using hi) (by simpa using b) l
   rw [List.getElem_set,List.getElem_set]
   have key:∀s:Rg,(Rg.mk p off m f c).apart s→(Rg.mk p off m' f c).apart s:=fun s hs a=>by
     rcases hs a with h1 | h1 | h1 | h1 | h1
     · exact .inl h1
     · exact .inr (.inl (by simp only at h1 ⊢;omega))
     · exact .inr (.inr (.inl h1))
     · exact .inr (.inr (.inr (.inl (by simp only at h1 ⊢;omega))))
     · exact .inr (.inr (.inr (.inr h1)))
   split
   · split
     · omega
     · rename_i h1 h2
       subst h1
       rw [e] at hp
       exact key _ hp
   · split
     · rename_i h1 h2
       subst h2
       rw [e] at hp
       exact (key _ hp.symm).symm
     · exact hp
theorem Ow.cut {a:Option Addr} {pb:Option Nat} {len cap:Nat} {F:Nat→af} {X:List af} (h:Ow a pb len cap F X) {m:Nat} (hm:m≤len) (ha:¬(m=0∧False)):Ow a pb (aT X 0 m).length m F (aT X 0 m):=by
 have hl:(aT X 0 m).length=m:=by rw [fv (by rw [h.hl];exact hm),Nat.sub_zero]
 refine ⟨?_,by omega,rfl,fun q hq=>?_⟩
 · rcases h.ho with ⟨h1,h2,h3⟩ | h1
   · exact .inl ⟨by have:=h.hc;omega,h2,h3⟩
   · exact .inr h1
 · rw [hl] at hq
   rw [mY (by rw [h.hl];exact hm) (by omega),Nat.zero_add]
   exact h.hF q (by omega)
theorem A1 (c:St B w0 L w) {t:TypeId} {x y z:Operand} {a:Option Addr} {pb:Option Nat} {len cap m:Nat} {F:Nat→af} {X:List af} (k:Nat) (hO:Ow a pb len cap F X) (ha:dc P t 1=true) (hg:aI n e g=true) (hx:ev n e x= .slice a len cap) (hy:∃kd,ev n e y= .int kd (m:Int)) (b:∃kd,ev n e z= .int kd (m:Int)) (hm:m≤len)
   (f:L[k]? =some ⟨pb,0,cap,fun q=>VU .u8 (F q),true⟩)
   (h:Ow a pb (aT X 0 m).length m F (aT X 0 m)→St B w0 (L.set k ⟨pb,0,m,fun q=>VU .u8 (F q),true⟩) w→aa P n K l O (an e d (.slice a (aT X 0 m).length m)) w):aa P n K (⟨i,true,⟨some d,.slice t x none (some y) (some z),ty,pos,aft,gd⟩,g⟩::l) O e w:=by
 have hc:=hO.hc
 have hl:(aT X 0 m).length=m:=by rw [fv (by rw [hO.hl];exact hm),Nat.sub_zero]
 have j:=hO.cut hm (fun h=>h.2)
 refine aa.val hg (fun w=>b8 ?_) (h j (c.shrink f (by omega)))
 obtain ⟨el,hu,hs⟩:=j4 ha
 obtain ⟨r,hy⟩:=hy
 obtain ⟨s,b⟩:=b
 rw [hx]
 have o:(Instr.sliceBounds true len cap none (some (ev n e y)) (some (ev n e z))).run P w= .ok (0,m,m) w:=by
   unfold Instr.sliceBounds
   simp [hy,b,run_sliceBound (show m≤cap by omega),run_sliceBound (Nat.le_refl m)]
 have p:a.map (·.add (0*1))=a:=by
   cases a with
   | none=>rfl
   | some a=>simp [Addr.add]
 simp only [Option.map_none,Option.map_some,Instr.sliceAt,Instr.slice,Sem.run_bind,run_underlying hu w,Result.andThen,o,et hs,Sem.run_pure,hl,Nat.sub_zero]
 rw [p]
 split <;> rfl
theorem rC {f:FuncId} {fn:Func} {x y c:Operand} {at':Array TypeId} {X Y C:BitVec 64} (hf:P.funcs[f]? =some fn) (a:(fn.name== "runtime.NumGoroutine")=false) (hb:fn.body.isNone=true) (b:Extern.findNext fn=none) (he:Extern.find fn=some add64Entry)
   (hg:aI n e g=true) (hx:ev n e x=VU .u64 X) (hy:ev n e y=VU .u64 Y) (hc:ev n e c=VU .u64 C) (o:C.toNat≤1)
   (h:aa P n K l O (an e d (.tuple #[VU .u64 (X+Y+C),VU .u64 (BitVec.ofNat 64 ((X.toNat+Y.toNat+C.toNat) / 2 ^ 64))])) w):
   aa P n K (⟨i,false,⟨some d,.call ⟨.value (.func f),#[x,y,c],at'⟩,ty,pos,aft,gd⟩,g⟩::l) O e w:=by
 have j:((X.toNat:Int)+Y.toNat+C.toNat) % 18446744073709551616=((X+Y+C).toNat:Int):=by
   rw [BitVec.toNat_add,BitVec.toNat_add];omega
 have k:((X.toNat:Int)+Y.toNat+C.toNat) / 18446744073709551616=((BitVec.ofNat 64 ((X.toNat+Y.toNat+C.toNat) / 2 ^ 64)).toNat:Int):=by
   have:=X.isLt;have:=Y.isLt
   rw [BitVec.toNat_ofNat];omega
 refine dR hg ?_
 have m:ev n e (.func f)= .func (.func f) #[] #[]:=rfl
 have h1:=run_callFunc_extern (P:=P) hf a hb b he #[VU .u64 X,VU .u64 Y,VU .u64 C] w
 rw [run_add64 _ _ _ (by omega) (by omega) (by omega) (by omega) w,j,k] at h1
 simp only [execOp,resolve,m,Deferred.ofValue,Sem.run_bind,Sem.run_pure,Result.andThen,invoke]
 have h2:(#[] ++Array.map (ev n e) #[x,y,c] ++ #[]:Array Value)= #[VU .u64 X,VU .u64 Y,VU .u64 C]:=by simp [hx,hy,hc]
 rw [h2,h1]
 exact .inl ⟨fun p _ hp=>hp,h⟩
theorem lp {t yt:TypeId} {x y:Operand} {a b:Int} (hg:aI n e g=true) (hx:ev n e x= .int .i64 a) (hy:ev n e y= .int .i64 b) (hb:b≠0) (c: -9223372036854775808≤a.tdiv b∧a.tdiv b≤9223372036854775807)
   (h:aa P n K l O (an e d (.int .i64 (a.tdiv b))) w):aa P n K (⟨i,true,⟨some d,.binOp .quo t x y yt,ty,pos,aft,gd⟩,g⟩::l) O e w:=
 Gc hg hx hy hb (by rw [fK _ c];exact h)
end step
section step2
variable {P:Program} {n:Nat} {K:aW→Env→World→Prop} {l:List It} {O O':aW} {e:Env} {w:World} {i i2 ty qk:Nat} {d d2:Tmp} {pos oa:String} {aft pL:Array Edge} {gd pD g g2:Option (Nat×Bool)}
variable {B:Nat} {w0:aC} {L L':List Rg}
theorem l6 (hO:ae O L) (a:St B w0 L w) {t el:TypeId} {len:Nat} {parts:Array (Nat×Operand)} {f:Nat→Value} {vs:List (Nat×Value)} {z:Value} (hu:P.underlying t=some (.slice el)) (he:P.underlying el=some (.int .u8)) (hs:bN P el 1=true) (c:(P.info? el).bind (·.zero)=some z)
   (hl:0 < len*1) (u:len*1≤16777216) (hg:aI n e g=true) (j:∀v,aI n (an e d v) g2=true) (k:∀v,ev n (an e d v) (.tmp d)=v)
   (hv:parts.toList.map (fun p=>(p.1,ev n e p.2))=vs) (hf:eF (fun i=>some (i*1,1)) ((List.range (len*1)).map fun i=>z.cells[i % z.cells.size]!) vs=some (aS [(len,f)]))
   (h:∀b w',B≤b→St B w0 (⟨some b,0,len,f,false⟩::L) w'→aa P n K l O (an (an e d (.slice (some ⟨b,0,none⟩) len len)) d2 (.slice (some ⟨b,0,none⟩) len len)) w'):
   aa P n K (⟨i,false,⟨some d,.buildSlice t len parts,ty,pos,aft,gd⟩,g⟩::⟨i2,false,⟨some d2,.convert t t (.tmp d),qk,oa,pL,pD⟩,g2⟩::l) O e w:=by
 have m:(execOp (ev n e) ⟨some d,.buildSlice t len parts,ty,pos,aft,gd⟩).run P w= .ok (.value (.slice (some ⟨w.heap.size,0,none⟩) len len)) (w.alloc (.cells (aS [(len,f)]).toArray el)):=b8 (by
   have o:(parts.map fun (i,x)=>(i,ev n e x)).toList=vs:=by rw [← hv];simp
   have q:=kR _ _ _ hf
   have r:((Array.range (len*1)).map (z.cells[· % z.cells.size]!))=((List.range (len*1)).map fun i=>z.cells[i % z.cells.size]!).toArray:=by
     apply Array.ext';simp
   simp only [Instr.buildSlice,Sem.run_bind,run_underlying hu w,Result.andThen,et hs,if_neg (show¬len*1 > 2 ^ 24 by omega),Sem.run_pure,if_neg (show¬len*1=0 by omega),h6 c,o,r,q,newRow,newObj]
   rfl)
 refine dR hg ?_
 rw [m]
 refine .inl ⟨ae.keep (hO.app [⟨some w.heap.size,0,len,f,false⟩] rfl) (a.pw len f el _),?_⟩
 refine dR (j _) ?_
 have s:(execOp (ev n (an e d (.slice (some ⟨w.heap.size,0,none⟩) len len))) ⟨some d2,.convert t t (.tmp d),qk,oa,pL,pD⟩).run P (w.alloc (.cells (aS [(len,f)]).toArray el))= .ok (.value (.slice (some ⟨w.heap.size,0,none⟩) len len)) (w.alloc (.cells (aS [(len,f)]).toArray el ((aS [(len,f)]).toArray.size,(aS [(len,f)]).toArray.size+1))):=b8 (by
   rw [k]
   exact Lib.run_convert_bytes_const w t el _ len len hu he)
 rw [show cv e (some d) (.slice (some ⟨w.heap.size,0,none⟩) len len)=an e d (.slice (some ⟨w.heap.size,0,none⟩) len len) from rfl,s]
 exact .inl ⟨ae.keep (hO.app [⟨some w.heap.size,0,len,f,false⟩] rfl) (a.pw len f el _),h _ _ a.base (a.pw len f el _)⟩
end step2
end Go.LW
namespace Go.LW
set_option linter.unusedSimpArgs false
set_option linter.unusedVariables false
set_option linter.unusedSectionVars false
open Go Go.RowKit
section step3
variable {P:Program} {n:Nat} {K:aW→Env→World→Prop} {l:List It} {O O':aW} {e:Env} {w:World} {i i2 i3 ty qk GN:Nat} {d d2 d3:Tmp} {pos oa GI:String} {aft pL GH:Array Edge} {gd pD GJ g g2 g3:Option (Nat×Bool)}
variable {B:Nat} {w0:aC} {L L':List Rg}
theorem oK {w:World} {b:Nat} {C:Array Value} {el:TypeId} (hk:w.heap[b]? =some (.cells C el (0,0))) (k a:Nat):(w.freeze ⟨b,k,none⟩ 1).heap[a]? =if b=a then some (.cells C el (k,k+1)) else w.heap[a]? :=by
 unfold World.freeze
 rw [if_neg (by decide)]
 simp only [Array.getElem?_modify]
 by_cases h:b=a
 · subst h;rw [if_pos rfl,if_pos rfl,hk];rfl
 · rw [if_neg h,if_neg h]
theorem uO (w:World) (b k:Nat):(w.freeze ⟨b,k,none⟩ 1).heap.size=w.heap.size:=by
 unfold World.freeze;rw [if_neg (by decide)];simp
theorem Bb {w:World} {b:Nat} {C:Array Value} {el:TypeId} (hk:w.heap[b]? =some (.cells C el (0,0))) (k:Nat) (a:Addr):(w.freeze ⟨b,k,none⟩ 1).cell? a=w.cell? a:=by
 unfold World.cell?
 rw [oK hk]
 by_cases h:b=a.block
 · rw [if_pos h,← h,hk]
 · rw [if_neg h]
theorem St.xu (h:St B w0 L w) {b:Nat} {C:Array Value} {el:TypeId} (i:B≤b) (hk:w.heap[b]? =some (.cells C el (0,0))):St B w0 L (w.freeze ⟨b,C.size,none⟩ 1):=by
 refine ⟨⟨h.below.toBlw.trans ⟨⟨?_,?_,?_,?_,fun k l=>?_⟩,?_⟩,fun r a=>⟨(h.below.maps r a).1,?_⟩,h.below.nE⟩,by rw [uO];exact h.base,fun r a j c=>?_,fun r a hw j c=>?_,h.apart⟩
 · unfold World.freeze;rw [if_neg (by decide)]
 · unfold World.freeze;rw [if_neg (by decide)]
 · unfold World.freeze;rw [if_neg (by decide)]
 · rw [uO];exact Nat.le_refl _
 · rw [oK hk,if_neg (by omega)]
 · unfold World.freeze;rw [if_neg (by decide)];exact Nat.le_refl _
 · obtain ⟨o,ho,h2,h3⟩:=(h.below.maps r a).2
   refine ⟨o,ho,?_,h3⟩
   rw [oK hk]
   by_cases hb:b=r.m
   · subst hb
     rw [hk] at h2
     obtain rfl:=Option.some.inj h2
     cases ho
   · rw [if_neg hb];exact h2
 · obtain ⟨d,hp,hc⟩:=h.at_ r a j c
   exact ⟨d,hp,by rw [Bb hk];exact hc⟩
 · obtain ⟨d,hp,hc⟩:=h.at_ r a j c
   obtain ⟨f,e,g,hf⟩:=h.free r a hw j c
   refine ⟨f,e,g,?_⟩
   obtain rfl:d=f:=by rw [hp] at e;exact Option.some.inj e
   unfold World.frozen? at hf ⊢
   rw [oK hk]
   by_cases hb:b=d
   · subst hb
     rw [if_pos rfl]
     unfold World.cell? at hc
     dsimp only at hc
     rw [hk] at hc
     have n:r.off+j < C.size:=by
       have:=(Array.getElem?_eq_some_iff.1 (by simpa using hc)).1
       exact this
     simp;omega
   · rw [if_neg hb];exact hf
theorem DE {P:Program} {w:World} {b:Nat} {t e:TypeId} {C:Array Value} (hk:w.heap[b]? =some (.cells C e (0,0))) (n c:Nat) (a:P.underlying t=some (.slice e)) (he:P.underlying e=some (.int .u8)):
   (convert t t (.slice (some ⟨b,0,none⟩) n c)).run P w= .ok (.slice (some ⟨b,0,none⟩) n c) (w.freeze ⟨b,C.size,none⟩ 1):=by
 have d:w.shape? b=some (e,C.size):=by unfold World.shape?;rw [hk]
 simp [convert,run_underlying a,run_underlying he,markStringish,d]
theorem yF (hO:ae O L) (a:St B w0 L w) {t el:TypeId} {len:Nat} {parts:Array (Nat×Operand)} {f:Nat→Value} {vs:List (Nat×Value)} {z:Value} (hu:P.underlying t=some (.slice el)) (hs:bN P el 1=true) (j:(P.info? el).bind (·.zero)=some z)
   (hl:0 < len*1) (r:len*1≤16777216) (hg:aI n e g=true)
   (hv:parts.toList.map (fun p=>(p.1,ev n e p.2))=vs) (hf:eF (fun i=>some (i*1,1)) ((List.range (len*1)).map fun i=>z.cells[i % z.cells.size]!) vs=some (aS [(len,f)]))
   (h:∀b w',B≤b→w'.heap[b]? =some (.cells (aS [(len,f)]).toArray el (0,0))→St B w0 (⟨some b,0,len,f,false⟩::L) w'→aa P n K l O (an e d (.slice (some ⟨b,0,none⟩) len len)) w'):
   aa P n K (⟨i,false,⟨some d,.buildSlice t len parts,ty,pos,aft,gd⟩,g⟩::l) O e w:=by
 have k:(execOp (ev n e) ⟨some d,.buildSlice t len parts,ty,pos,aft,gd⟩).run P w= .ok (.value (.slice (some ⟨w.heap.size,0,none⟩) len len)) (w.alloc (.cells (aS [(len,f)]).toArray el)):=b8 (by
   have m:(parts.map fun (i,x)=>(i,ev n e x)).toList=vs:=by rw [← hv];simp
   have o:=kR _ _ _ hf
   have q:((Array.range (len*1)).map (z.cells[· % z.cells.size]!))=((List.range (len*1)).map fun i=>z.cells[i % z.cells.size]!).toArray:=by
     apply Array.ext';simp
   simp only [Instr.buildSlice,Sem.run_bind,run_underlying hu w,Result.andThen,et hs,if_neg (show¬len*1 > 2 ^ 24 by omega),Sem.run_pure,if_neg (show¬len*1=0 by omega),h6 j,m,q,o,newRow,newObj]
   rfl)
 refine dR hg ?_
 rw [k]
 have c:=a.pw len f el (0,0)
 exact .inl ⟨ae.keep (hO.app [⟨some w.heap.size,0,len,f,false⟩] rfl) c,h _ _ a.base (heap_alloc_new _ _) c⟩
theorem pe (hO:ae O L) (c:St B w0 L w) {b len:Nat} {t el:TypeId} {x:Operand} {C:Array Value} (f:B≤b) (hk:w.heap[b]? =some (.cells C el (0,0))) (hu:P.underlying t=some (.slice el)) (he:P.underlying el=some (.int .u8)) (hg:aI n e g=true) (hx:ev n e x= .slice (some ⟨b,0,none⟩) len len)
   (h:∀w',St B w0 L w'→aa P n K l O (an e d (.slice (some ⟨b,0,none⟩) len len)) w'):
   aa P n K (⟨i,false,⟨some d,.convert t t x,ty,pos,aft,gd⟩,g⟩::l) O e w:=by
 refine dR hg ?_
 have j:(execOp (ev n e) ⟨some d,.convert t t x,ty,pos,aft,gd⟩).run P w= .ok (.value (.slice (some ⟨b,0,none⟩) len len)) (w.freeze ⟨b,C.size,none⟩ 1):=b8 (by
   rw [hx];exact DE hk len len hu he)
 rw [j]
 have a:=c.xu f hk
 exact .inl ⟨ae.keep hO a,h _ a⟩
theorem xA (hO:ae O L) (f:St B w0 L w) {t3:TypeId} {x y:Operand} {m c:Nat} {k j:IntKind} (r:eT P t3=some (1,1,some (VU .u8 0#8))) (hg:aI n e g=true) (hx:ev n e x= .int k (m:Int)) (hy:ev n e y= .int j (c:Int)) (s:m≤c) (hc:c≤281474976710656)
   (h:∀(b:Nat) (w':World),B≤b→(∀(q:Nat) (v:Obj),w.heap[q]? =some v→w'.heap[q]? =some v)→Ow (some ⟨b,0,none⟩) (some b) (List.replicate m 0#8).length c (fun _=>0#8) (List.replicate m 0#8)→St B w0 (⟨some b,0,c,fun q=>VU .u8 ((fun _=>0#8:Nat→af) q),true⟩::L) w'→aa P n K l O (cv e (some d) (.slice (some ⟨b,0,none⟩) (List.replicate m 0#8).length c)) w'):
   aa P n K (⟨i,false,⟨some d,.makeSlice t3 x y,ty,pos,aft,gd⟩,g⟩::l) O e w:=by
 obtain ⟨a,inf,t,u,z,A,C⟩:=hZ r
 have o:=run_make (P:=P) w t3 a inf _ t u C k j m c (Int.natCast_nonneg _) (by omega) (by rw [A];omega) (by omega)
 have hm:madeCells (VU .u8 0#8:Value).cells ((c:Int).toNat*inf.size)=(aS [(c,fun _=>VU .u8 0#8)]).toArray:=by
   rw [z,Int.toNat_natCast,Nat.mul_one,eg]
   show madeCells #[VU .u8 0#8] c=_
   unfold madeCells
   apply Array.ext'
   apply List.ext_getElem?
   intro q
   by_cases hq:q < c
   · simp [hq,Nat.mod_one]
   · simp [hq]
 rw [hm] at o
 have D:(execOp (ev n e) ⟨some d,.makeSlice t3 x y,ty,pos,aft,gd⟩).run P w= .ok (.value (.slice (some ⟨w.heap.size,0,none⟩) (List.replicate m 0#8).length c)) (w.alloc (.cells (aS [(c,fun _=>VU .u8 0#8)]).toArray a)):=b8 (by
   rw [hx,hy,o];simp)
 refine dR hg ?_
 rw [D]
 have p:=f.alloc [(c,fun _=>VU .u8 0#8)] a
 refine .inl ⟨ae.keep (hO.app _ rfl) p,h _ _ f.base (fun q v hv=>?_) ?_ p⟩
 · have hq:q < w.heap.size:=by
     rcases Nat.lt_or_ge q w.heap.size with hq | hq
     · exact hq
     · rw [Array.getElem?_eq_none hq] at hv;cases hv
   rw [((Below.refl w.heap.size w).alloc (Nat.le_refl _) _).block q hq];exact hv
 · refine ⟨.inr ⟨_,rfl,rfl⟩,by rw [List.length_replicate];exact s,rfl,fun q hq=>?_⟩
   unfold lit
   rw [List.getD_eq_getElem?_getD,List.getElem?_replicate]
   split <;> rfl
end step3
end Go.LW
namespace Go.LW
set_option linter.unusedSimpArgs false
set_option linter.unusedVariables false
set_option linter.unusedSectionVars false
open Go Go.RowKit
structure FA where
 i:Nat
 d:Nat
 T:TypeId
 ps:List (Nat×(Nat→Value))
theorem jw (a:Int) {c:Int} (hc:0 < c): -c < a.tmod c∧a.tmod c < c:=by
 rcases Int.le_total 0 a with h | h
 · rw [Int.tmod_eq_emod_of_nonneg h]
   have h1:=Int.emod_nonneg a (show c≠0 by omega)
   have h2:=Int.emod_lt_of_pos a hc
   omega
 · have e:a.tmod c= -((-a).tmod c):=by rw [Int.neg_tmod,Int.neg_neg]
   rw [e,Int.tmod_eq_emod_of_nonneg (by omega)]
   have h1:=Int.emod_nonneg (-a) (show c≠0 by omega)
   have h2:=Int.emod_lt_of_pos (-a) hc
   omega
def ov (ds:List Nat) (z e:Env):Env:=fun i=>cond (ds.any (Nat.beq i)) (z i) (e i)
theorem Ci {ds:List Nat} {z e:Env} {i:Nat} (h:i∈ds):ov ds z e i=z i:=by
 unfold ov
 rw [show ds.any (Nat.beq i)=true from List.any_eq_true.2 ⟨i,h,Nat.beq_refl i⟩]
 rfl
theorem BR {ds:List Nat} {z e:Env} {i:Nat} (h:¬i∈ds):ov ds z e i=e i:=by
 unfold ov
 rw [show ds.any (Nat.beq i)=false from by
   rw [List.any_eq_false]
   intro x hx hb
   rw [Nat.eq_of_beq_eq_true hb] at h
   exact h hx]
 rfl
theorem EZ {ds:List Nat} {z e:Env} (h:∀i,¬i∈ds→z i=e i):ov ds z e=z:=by
 funext i
 by_cases hi:i∈ds
 · exact Ci hi
 · rw [BR hi,h i hi]
theorem St.perm {B:Nat} {w0:aC} {w:World} {L L':List Rg} (h:St B w0 L w) (hp:L.Perm L'):St B w0 L' w:=
 ⟨h.below,h.base,fun r a=>h.at_ r (hp.mem_iff.2 a),fun r a=>h.free r (hp.mem_iff.2 a),(hp.pairwise_iff (fun h=>Rg.apart.symm h)).1 h.apart⟩
section
variable {P:Program} {n:Nat} {ops:Array Oper} {Q:Exit→Act→World→Prop} {B:Nat} {w0:aC}
def KE (G:Env→World→Prop) (B:Nat) (w0:aC) (F L:List Rg):List FA→List Rg→Env→Prop
 | [],R,e=>∀w,St B w0 (F ++(R ++L)) w→G e w
 | a::A,R,e=>∀b,KE G B w0 F L A (R ++ao b 0 a.ps) (an e a.d (.pointer (some ⟨b,0,none⟩)))
def PX (P:Program) (n:Nat) (ops:Array Oper) (B:Nat) (L:List Rg) (ds:List Nat) (Z:aC→List Rg→aW→Env→Prop):List (List (Nat×Bool))→aC→List Rg→aW→Env→Prop
 | [],w0,F,O,e=>Z w0 F O e
 | σ::b,w0,F,O,e=>∀C z w,St B w0 (F ++(C ++L)) w→
    aa P n (fun O' c w'=>∃a F',St B a (F' ++(C ++L)) w'∧ae O' (F' ++L)∧PX P n ops B L ds Z b a F' O' c) (items ops σ) O (ov ds z e) w
theorem KE.all {G:Env→World→Prop} {F L:List Rg} (bs:Nat→Nat):∀(A:List FA) (R:List Rg) (e:Env),KE G B w0 F L A R e→
   ∀w,St B w0 (F ++(R ++A.flatMap (fun a=>ao (bs a.d) 0 a.ps) ++L)) w→G (A.foldl (fun e a=>an e a.d (.pointer (some ⟨bs a.d,0,none⟩))) e) w
 | [],R,e,h,w,b=>h w (by simpa using b)
 | a::A,R,e,h,w,b=>by
   refine KE.all bs A _ _ (h (bs a.d)) w ?_
   simpa [List.append_assoc] using b
theorem vF (bs:Nat→Nat) (i:Nat):∀(A:List FA) (e:Env),(A.foldl (fun e a=>an e a.d (.pointer (some ⟨bs a.d,0,none⟩))) e) i=if i∈A.map (·.d) then .pointer (some ⟨bs i,0,none⟩) else e i
 | [],e=>by simp
 | a::A,e=>by
   rw [List.foldl_cons,vF bs i A,List.map_cons]
   by_cases h:i∈A.map (·.d)
   · rw [if_pos h,if_pos (List.mem_cons_of_mem _ h)]
   · rw [if_neg h,da]
     by_cases h2:i=a.d
     · subst h2;rw [if_pos rfl,if_pos List.mem_cons_self]
     · rw [if_neg h2,if_neg (by rw [List.mem_cons];exact fun h3=>h3.elim h2 h)]
theorem ae.mid {O:aW} {F L:List Rg} (h:ae O (F ++L)) {w:World} {C:List Rg} (b:St B w0 (F ++(C ++L)) w):∀p∈O,p.2 w:=by
 have hs:St B w0 (F ++L) w:=b.sub (List.Sublist.append (List.Sublist.refl F) (List.sublist_append_right C L))
 intro p hp
 clear b
 generalize F ++L=M at h hs
 induction h with
 | nil=>cases hp
 | cons i h t a=>
   rcases List.mem_cons.1 hp with rfl | hp
   · exact hs.mem h
   · exact a hp hs
 | nh t a=>
   rcases List.mem_cons.1 hp with rfl | hp
   · trivial
   · exact a hp hs
 | parts h t a=>
   rcases List.mem_cons.1 hp with rfl | hp
   · exact h.cells hs
   · exact a hp hs
theorem KE.mono {G a:Env→World→Prop} {F L:List Rg} (h:∀e w,G e w→a e w):∀(A:List FA) (R:List Rg) (e:Env),KE G B w0 F L A R e→KE a B w0 F L A R e
 | [],_,_,hk=>fun w c=>h _ _ (hk w c)
 | _::A,_,_,hk=>fun b=>KE.mono h A _ _ (hk b)
theorem PX.mono {L:List Rg} {ds:List Nat} {Z b:aC→List Rg→aW→Env→Prop} (h:∀w0 F O e,Z w0 F O e→b w0 F O e):∀(a:List (List (Nat×Bool))) (w0:aC) (F:List Rg) (O:aW) (e:Env),PX P n ops B L ds Z a w0 F O e→PX P n ops B L ds b a w0 F O e
 | [],_,_,_,_,hk=>h _ _ _ _ hk
 | _::a,_,_,_,_,hk=>fun C z w c=>aa.mono (fun _ _ _ ⟨d,F',h1,h2,h3⟩=>⟨d,F',h1,h2,PX.mono h a _ _ _ _ h3⟩) _ _ _ _ (hk C z w c)
theorem xG {ds:List Nat}:∀(l:List It) {K:aW→Env→World→Prop} (O:aW) (e:Env) (w:World),(∀it∈l,∀d,it.o.dst=some d→¬d∈ds)→aa P n K l O e w→
   aa P n (fun O' c w'=>K O' c w'∧∀i∈ds,c i=e i) l O e w
 | [],K,O,e,w,_,h=>⟨h,fun _ _=>rfl⟩
 | it::l,K,O,e,w,j,h=>by
   have hl:∀it∈l,∀d,it.o.dst=some d→¬d∈ds:=fun q hq=>j q (List.mem_cons_of_mem _ hq)
   have key:∀v,∀i∈ds,cv e it.o.dst v i=e i:=fun v i hi=>by
     unfold cv
     cases hx:it.o.dst with
     | none=>rfl
     | some d=>
       refine eR _ _ _ _ ?_
       rintro rfl
       exact j it List.mem_cons_self _ hx hi
   have go:∀v O w,aa P n K l O (cv e it.o.dst v) w→aa P n (fun O' c w'=>K O' c w'∧∀i∈ds,c i=e i) l O (cv e it.o.dst v) w:=fun v O w hp=>
     aa.mono (fun O c w hk=>⟨hk.1,fun i hi=>by rw [hk.2 i hi,key v i hi]⟩) _ _ _ _ (xG l O _ w hl hp)
   unfold aa at h ⊢
   split
   · rename_i hw
     rw [if_pos hw] at h
     split
     · rename_i f
       rw [if_pos f] at h
       obtain ⟨v,⟨h3,g⟩ | ⟨S,h2,h3,g⟩⟩:=h
       · exact ⟨v,.inl ⟨h3,go _ _ _ g⟩⟩
       · exact ⟨v,.inr ⟨S,h2,h3,go _ _ _ g⟩⟩
     · rename_i f
       rw [if_neg f] at h
       exact o3 (fun v w' hk=>hk.imp (fun ⟨a,b⟩=>⟨a,go _ _ _ b⟩) (Or.imp (fun ⟨a,b⟩=>⟨a,go _ _ _ b⟩) (fun ⟨a,b⟩=>⟨a,go _ _ _ b⟩))) h
   · rename_i hw
     rw [if_neg hw] at h
     exact go _ _ _ h
def iu {α:Type}:List α→List (α×List α)
 | []=> []
 | a::l=>(a,l)::(iu l).map fun p=>(p.1,a::p.2)
theorem lM {α:Type} {a:α} {r:List α}:∀ {l:List α},(a,r)∈iu l→l.Perm (a::r)
 | [],h=>by cases h
 | x::l,h=>by
   rcases List.mem_cons.1 h with h | h
   · cases h;exact List.Perm.refl _
   · obtain ⟨⟨b,c⟩,hb,he⟩:=List.mem_map.1 h
     cases he
     exact ((lM hb).cons x).trans (List.Perm.swap _ _ _)
theorem rn {α:Type} {a:α}:∀ {l:List α},a∈l→∃r,(a,r)∈iu l
 | x::l,h=>by
   by_cases hx:a∈l
   · obtain ⟨r,b⟩:=rn hx
     exact ⟨x::r,List.mem_cons_of_mem _ (List.mem_map.2 ⟨_,b,rfl⟩)⟩
   · rcases List.mem_cons.1 h with rfl | h
     · exact ⟨l,List.mem_cons_self⟩
     · exact absurd h hx
def okF (ops:Array Oper) (a:List (Nat×Bool)):Nat→List Nat→List (List (Nat×Bool))→Array Bool→Bool
 | 0,_,_,_=>false
 | f+1,A,c,l=>
   match c with
   | []=>match A with
     | []=>(match eA ops a l with
       | some b=>Region.ready .any ops b== []
       | none=>false)
     | _=> !(Region.ready .any ops l).isEmpty && (Region.ready .any ops l).all (fun j=>A.contains j) && (iu A).all (fun p=>okF ops a f p.2 [] (l.setIfInBounds p.1 true))
   | ((i,false)::st)::d=> !(Region.ready .any ops l).isEmpty && (Region.ready .any ops l).all (fun j=>(i::A).contains j) && (iu A).all (fun p=>okF ops a f p.2 c (l.setIfInBounds p.1 true)) &&
     (match eA ops st (l.setIfInBounds i true) with
       | some b=>okF ops a f A d b
       | none=>false)
   | _=>false
def marks (l:Array Bool) (xs:List Nat):Array Bool:=xs.foldl (fun l i=>l.setIfInBounds i true) l
theorem set_comm (l:Array Bool) (i j:Nat):(l.setIfInBounds i true).setIfInBounds j true=(l.setIfInBounds j true).setIfInBounds i true:=by
 by_cases h:i=j
 · subst h;rfl
 · exact Array.setIfInBounds_comm _ _ h
theorem nm {xs a:List Nat} (h:xs.Perm a):∀l,marks l xs=marks l a:=by
 induction h with
 | nil=>intro l;rfl
 | cons x h c=>intro l;exact c _
 | swap x y b=>intro l;show marks ((l.setIfInBounds y true).setIfInBounds x true) b=marks ((l.setIfInBounds x true).setIfInBounds y true) b;rw [set_comm]
 | trans h1 h2 d e=>intro l;rw [d,e]
theorem mT (l:Array Bool) (xs a:List Nat):marks l (xs ++a)=marks (marks l xs) a:=by unfold marks;rw [List.foldl_append]
theorem tm (ops:Array Oper):∀(σ:List (Nat×Bool)) (l a:Array Bool),eA ops σ l=some a→a=marks l (σ.map (·.1))
 | [],l,a,h=>by simp only [eA,Option.some.injEq] at h;exact h.symm
 | (i,true)::σ,l,a,h=>by
   simp only [eA] at h
   split at h
   · exact tm ops σ _ _ h
   · cases h
 | (i,false)::σ,l,a,h=>by
   simp only [eA] at h
   split at h
   · exact tm ops σ _ _ h
   · cases h
def splits:List Nat→List (List Nat×List Nat)
 | []=> [([],[])]
 | a::l=>(splits l).map (fun p=>(a::p.1,p.2)) ++(splits l).map (fun p=>(p.1,a::p.2))
theorem qx:∀ {A D A':List Nat},(D ++A').Perm A→∃p∈splits A,p.1.Perm D∧p.2.Perm A'
 | [],D,A',h=>by
   have:=h.eq_nil
   rw [List.append_eq_nil_iff] at this
   obtain ⟨rfl,rfl⟩:=this
   exact ⟨([],[]),List.mem_cons_self,List.Perm.refl _,List.Perm.refl _⟩
 | a::A,D,A',h=>by
   have ha:a∈D ++A':=h.mem_iff.2 List.mem_cons_self
   rcases List.mem_append.1 ha with ha | ha
   · obtain ⟨D1,b⟩:∃D1,D.Perm (a::D1):=⟨D.erase a,List.perm_cons_erase ha⟩
     have h2:(D1 ++A').Perm A:=List.Perm.cons_inv (a:=a) ((b.symm.append_right A').trans h)
     obtain ⟨p,hp,h3,c⟩:=qx h2
     exact ⟨(a::p.1,p.2),List.mem_append_left _ (List.mem_map.2 ⟨p,hp,rfl⟩),(h3.cons a).trans b.symm,c⟩
   · obtain ⟨D1,b⟩:∃D1,A'.Perm (a::D1):=⟨A'.erase a,List.perm_cons_erase ha⟩
     have h2:(D ++D1).Perm A:=List.Perm.cons_inv (a:=a) (((List.perm_middle.symm).trans (b.symm.append_left D)).trans h)
     obtain ⟨p,hp,h3,c⟩:=qx h2
     exact ⟨(p.1,a::p.2),List.mem_append_right _ (List.mem_map.2 ⟨p,hp,rfl⟩),h3,(c.cons a).trans b.symm⟩
def jq (ops:Array Oper) (a:List (Nat×Bool)) (A:List Nat):List (List (Nat×Bool))→Array Bool→Bool
 | [],l=>(splits A).all fun p=>match p.2 with
   | []=>(match eA ops a (marks l p.1) with
     | some b=>Region.ready .any ops b== []
     | none=>false)
   | _=> !(Region.ready .any ops (marks l p.1)).isEmpty && (Region.ready .any ops (marks l p.1)).all (fun j=>p.2.contains j)
 | ((i,false)::st)::c,l=>((splits A).all fun p=> !(Region.ready .any ops (marks l p.1)).isEmpty && (Region.ready .any ops (marks l p.1)).all (fun j=>(i::p.2).contains j) && (eA ops st (marks (l.setIfInBounds i true) p.1)).isSome) &&
   jq ops a A c (marks (l.setIfInBounds i true) (st.map (·.1)))
 | _,_=>false
theorem vY {A B l:List Nat} (h:A.Perm B) (ha:(l.all fun j=>A.contains j)=true):(l.all fun j=>B.contains j)=true:=by
 rw [List.all_eq_true] at ha ⊢
 intro j a
 have:=ha j a
 simp only [List.contains_iff_mem] at this ⊢
 exact h.mem_iff.1 this
theorem GF (l:Array Bool) (D:List Nat) (i:Nat):(marks l D).setIfInBounds i true=marks (l.setIfInBounds i true) D:=by
 have h1:(marks l D).setIfInBounds i true=marks l (D ++ [i]):=(mT l D [i]).symm
 rw [h1,nm (List.perm_append_comm (l₁:=D) (l₂:= [i]))];rfl
theorem yp {ops:Array Oper} {d:List (Nat×Bool)} {A:List Nat}:∀(g:List (List (Nat×Bool))) (l:Array Bool),jq ops d A g l=true→
   ∀(f:Nat) (D A':List Nat),(D ++A').Perm A→A'.length+g.length < f→okF ops d f A' g (marks l D)=true
 | [],l,h=>by
   intro f
   induction f with
   | zero=>intro D A' _ hf;exact absurd hf (Nat.not_lt_zero _)
   | succ f k=>
     intro D A' hp hf
     unfold jq at h
     have key:=fun (p:List Nat×List Nat) (hp:p∈splits A)=>List.all_eq_true.1 h p hp
     obtain ⟨p,hm,h1,h2⟩:=qx hp
     have hk:=key p hm
     have e:marks l p.1=marks l D:=nm h1 l
     cases A' with
     | nil=>
       have h3:p.2= []:=h2.eq_nil
       rw [h3,e] at hk
       unfold okF
       exact hk
     | cons a y=>
       have h3:p.2≠ []:=fun t=>by rw [t] at h2;exact absurd h2.symm.eq_nil (by simp)
       have m:(!(Region.ready .any ops (marks l p.1)).isEmpty && (Region.ready .any ops (marks l p.1)).all (fun j=>p.2.contains j))=true:=by
         revert hk
         split
         · rename_i u;exact absurd u h3
         · exact id
       rw [e,Bool.and_eq_true] at m
       unfold okF
       simp only [Bool.and_eq_true]
       refine ⟨⟨m.1,vY h2 m.2⟩,?_⟩
       rw [List.all_eq_true]
       rintro ⟨b,r⟩ hb
       have c:=lM hb
       have n:(marks l D).setIfInBounds b true=marks l (D ++ [b]):=(mT l D [b]).symm
       show okF ops d f r [] ((marks l D).setIfInBounds b true)=true
       rw [n]
       refine k (D ++ [b]) r ?_ ?_
       · rw [List.append_assoc]
         exact ((c.symm).append_left D).trans hp
       · have:=c.length_eq
         simp only [List.length_cons,List.length_nil] at this hf ⊢
         omega
 | ((i,false)::st)::q,l,h=>by
   unfold jq at h
   rw [Bool.and_eq_true] at h
   have v:=yp q _ h.2
   have key:=fun (p:List Nat×List Nat) (hp:p∈splits A)=>List.all_eq_true.1 h.1 p hp
   intro f
   induction f with
   | zero=>intro D A' _ hf;exact absurd hf (Nat.not_lt_zero _)
   | succ f k=>
     intro D A' hp hf
     obtain ⟨p,hm,h1,h2⟩:=qx hp
     have hk:=key p hm
     have e:marks l p.1=marks l D:=nm h1 l
     have w:marks (l.setIfInBounds i true) p.1=marks (l.setIfInBounds i true) D:=nm h1 _
     simp only [Bool.and_eq_true] at hk
     rw [e,w] at hk
     unfold okF
     simp only [Bool.and_eq_true]
     refine ⟨⟨⟨hk.1.1,vY (h2.cons i) hk.1.2⟩,?_⟩,?_⟩
     · rw [List.all_eq_true]
       rintro ⟨b,r⟩ hb
       have c:=lM hb
       have n:(marks l D).setIfInBounds b true=marks l (D ++ [b]):=(mT l D [b]).symm
       show okF ops d f r _ ((marks l D).setIfInBounds b true)=true
       rw [n]
       refine k (D ++ [b]) r ?_ ?_
       · rw [List.append_assoc]
         exact ((c.symm).append_left D).trans hp
       · have:=c.length_eq
         simp only [List.length_cons] at this hf ⊢
         omega
     · rw [GF]
       have s:=hk.2
       split
       · rename_i z o
         have x:=tm ops _ _ _ o
         rw [x,← mT,nm (List.perm_append_comm (l₁:=D)),mT]
         exact v f D A' hp (by simp only [List.length_cons] at hf;omega)
       · rename_i o
         rw [o] at s;cases s
 | []::_,l,h=>by simp [jq] at h
 | ((i,true)::st)::q,l,h=>by simp [jq] at h
def ej (a:List (List (Nat×Bool))):Nat:=(a.map List.length).sum
def uF (P:Program) (ops:Array Oper) (a:FA):Prop:=(∃ty pos aft,ops[a.i]? =some ⟨some a.d,.alloc a.T,ty,pos,aft,none⟩)∧cM P a.T a.ps
def qi (ops:Array Oper) (ds:List Nat) (a:List (List (Nat×Bool))):Bool:=a.all fun σ=>σ.all fun p=>match (ops.getD p.1 default).dst with | some d=> !ds.contains d | none=>true
theorem FN {ds:List Nat} {σ:List (Nat×Bool)} (h:(σ.all fun p=>match (ops.getD p.1 default).dst with | some d=> !ds.contains d | none=>true)=true):∀it∈items ops σ,∀d,it.o.dst=some d→¬d∈ds:=by
 intro it b d a
 obtain ⟨p,hp,rfl⟩:=List.mem_map.1 b
 have:=List.all_eq_true.1 h p hp
 simp only [] at a
 rw [a] at this
 simpa using this
theorem xp {α:Type} {a:α} {r:List α}:∀ {l:List α},(a,r)∈iu l→l.length=r.length+1:=fun h=>by
 have:=(lM h).length_eq
 simpa using this
theorem sP {α β:Type} (f:α→β) {a:α} {r:List α}:∀ {l:List α},(a,r)∈iu l→(f a,r.map f)∈iu (l.map f)
 | x::l,h=>by
   rcases List.mem_cons.1 h with h | h
   · cases h;exact List.mem_cons_self
   · obtain ⟨⟨b,c⟩,hb,he⟩:=List.mem_map.1 h
     cases he
     exact List.mem_cons_of_mem _ (List.mem_map.2 ⟨_,sP f hb,rfl⟩)
theorem Gx (M:n≤1000000) (hs:Region.noSelect ops=true) (Y:∀c a w,¬Q (.panic c) a w) {L:List Rg} {b:List (Nat×Bool)} {A:List FA} (bv:∀a∈A,uF P ops a) (cc:(A.map (·.d)).Nodup):
   ∀(f:Nat) (k A':List FA) (s:List (List (Nat×Bool))) (l:Array Bool),okF ops b f (A'.map (·.i)) s l=true→qi ops (A.map (·.d)) s=true→(k ++A').Perm A→
    ∀(w0:aC) (F C:List Rg) (O:aW) (e o:Env) (w:World) (bs:Nat→Nat),(∀i,¬i∈A.map (·.d)→o i=e i)→(∀a∈k,o a.d= .pointer (some ⟨bs a.d,0,none⟩))→C.Perm (k.flatMap fun a=>ao (bs a.d) 0 a.ps)→
     St B w0 (F ++(C ++L)) w→ae O (F ++L)→
     PX P n ops B L (A.map (·.d)) (fun w0 F O e=>KE (fun e w=>aa P n (fun _ e w=>Q .normal (act n e) w) (items ops b) O e w) B w0 F L A [] e) s w0 F O e→
     eo P ops Q O (A'.length+ej s+b.length) l (act n o) w:=by
 intro f
 induction f with
 | zero=>intro k A' s l h;simp [okF] at h
 | succ f Z=>
   intro k A' s l g G E w0 F C O e o w bs N H R I hO hX
   have am:∀p∈O,p.2 w:=hO.mid I
   -- a float comes up
   have float:∀(a:FA) (r:List FA),(a,r)∈iu A'→okF ops b f (r.map (·.i)) s (l.setIfInBounds a.i true)=true→
       wpOp P ops Q a.i (fun cd w'=>(∀p∈O,cF (ops.getD a.i default) p.1=false→p.2 w')∧eo P ops Q (O.filter fun p=> !cF (ops.getD a.i default) p.1) (r.length+ej s+b.length) (l.setIfInBounds a.i true) cd w') (act n o) w:=by
     intro a r t ce
     have S:=lM t
     have ap:a∈A:=E.mem_iff.1 (List.mem_append_right _ (S.mem_iff.2 List.mem_cons_self))
     obtain ⟨⟨ty,pos,aft,ci⟩,z,cl,co⟩:=bv a ap
     unfold wpOp
     simp only [ci]
     rw [if_pos (show Region.wanted (⟨some a.d,.alloc a.T,ty,pos,aft,none⟩:Oper) (yielded ops (act n o).tmps)=true from rfl)]
     refine .inl ?_
     have cs:(execOp (ev n o) ⟨some a.d,.alloc a.T,ty,pos,aft,none⟩).run P w= .ok (.value (.pointer (some ⟨w.heap.size,0,none⟩))) (w.alloc (.cells (aS a.ps).toArray a.T)):=b8 (by
       simp only [Instr.alloc,Sem.run_bind,h6 cl,Result.andThen,newVar,newRow,newObj,co]
       rfl)
     have c1:=I.alloc a.ps a.T
     have a2:St B w0 (F ++((ao w.heap.size 0 a.ps ++C) ++L)) (w.alloc (.cells (aS a.ps).toArray a.T)):=c1.perm (by
       rw [List.append_assoc (ao w.heap.size 0 a.ps) C L,← List.append_assoc,← List.append_assoc F]
       exact List.perm_append_comm.append_right _)
     refine tl (fun v w' hk=>hk) (K:=fun v w'=>(∀p∈O,cF (ops.getD a.i default) p.1=false→p.2 w')∧eo P ops Q (O.filter fun p=> !cF (ops.getD a.i default) p.1) (r.length+ej s+b.length) (l.setIfInBounds a.i true) (act n (cv o (some a.d) v)) w') ?_
     rw [cs]
     refine ⟨fun p hp _=>hO.mid a2 p hp,iQ _ O _ _ _ _ (fun p hp=> .inl (List.mem_filter.1 hp).1) ?_⟩
     have c2:((k ++ [a]) ++r).Perm A:=by
       refine List.Perm.trans ?_ E
       rw [List.append_assoc]
       exact (List.Perm.append_left k S.symm)
     have a3:((k ++A').map (·.d)).Nodup:=((E.map (·.d)).nodup_iff).2 cc
     have u:∀q∈k,q.d≠a.d:=fun q hq he=>by
       rw [List.map_append,List.nodup_append] at a3
       exact a3.2.2 q.d (List.mem_map_of_mem hq) a.d (List.mem_map_of_mem (S.mem_iff.2 List.mem_cons_self)) he
     refine Z (k ++ [a]) r s _ ce G c2 w0 F (ao w.heap.size 0 a.ps ++C) O e _ _ (an bs a.d w.heap.size) (fun i hi=>?_) (fun q hq=>?_) ?_ a2 hO hX
     · show an o a.d _ i=e i
       rw [eR _ _ _ _ (fun dl=>hi (by rw [dl];exact List.mem_map_of_mem ap))]
       exact N i hi
     · show an o a.d _ q.d=_
       rcases List.mem_append.1 hq with hq | hq
       · rw [eR _ _ _ _ (u q hq),eR _ _ _ _ (u q hq)]
         exact H q hq
       · obtain rfl:q=a:=by simpa using hq
         rw [fz,fz]
     · rw [List.flatMap_append]
       have d0:(k.flatMap fun q=>ao (an bs a.d w.heap.size q.d) 0 q.ps)=(k.flatMap fun q=>ao (bs q.d) 0 q.ps):=by
         have:∀(D:List FA),(∀q∈D,q.d≠a.d)→(D.flatMap fun q=>ao (an bs a.d w.heap.size q.d) 0 q.ps)=(D.flatMap fun q=>ao (bs q.d) 0 q.ps):=by
           intro D H
           induction D with
           | nil=>rfl
           | cons x D d1=>
             rw [List.flatMap_cons,List.flatMap_cons,d1 (fun q hq=>H q (List.mem_cons_of_mem _ hq)),eR _ _ _ _ (H x List.mem_cons_self)]
         exact this k u
       rw [d0]
       simp only [List.flatMap_cons,List.flatMap_nil,List.append_nil,fz]
       exact (List.perm_append_comm).trans (R.append_right _)
   unfold okF at g
   cases s with
   | nil=>
     simp only at g
     cases A' with
     | nil=>
       simp only [List.map_nil] at g
       split at g
       · rename_i a4 hp
         rw [beq_iff_eq] at g
         rw [show ([]:List FA).length+ej []+b.length=b.length+0 by simp [ej]]
         refine gA M hs Y (f:=0) (fun O e w _ hk=>⟨g,hk⟩) b O l o w hp am ?_
         rw [List.append_nil] at E
         have d2:KE (fun e w=>aa P n (fun _ e w=>Q .normal (act n e) w) (items ops b) O e w) B w0 F L A [] e:=hX
         have h1:=KE.all bs A [] e d2 w (I.perm (by
           rw [List.nil_append]
           refine List.Perm.append_left F (List.Perm.append_right L ?_)
           exact R.trans (E.flatMap_right _)))
         have h2:(A.foldl (fun e a=>an e a.d (.pointer (some ⟨bs a.d,0,none⟩))) e)=o:=by
           funext i
           rw [vF]
           by_cases hi:i∈A.map (·.d)
           · rw [if_pos hi]
             obtain ⟨a,ha,rfl⟩:=List.mem_map.1 hi
             exact (H a (E.mem_iff.2 ha)).symm
           · rw [if_neg hi,N i hi]
         rw [h2] at h1
         exact h1
       · cases g
     | cons a0 A0=>
       simp only [List.map_cons,Bool.and_eq_true,Bool.not_eq_true'] at g
       obtain ⟨⟨u,U⟩,V⟩:=g
       rw [show (a0::A0).length+ej []+b.length=(A0.length+ej []+b.length)+1 by simp [ej];omega]
       refine ⟨fun W=>(by rw [W] at u;cases u),fun j J=>?_⟩
       have h1:=List.all_eq_true.1 U j J
       have h2:j∈(a0::A0).map (·.i):=by simpa using h1
       obtain ⟨a,ha,rfl⟩:=List.mem_map.1 h2
       obtain ⟨r,t⟩:=rn ha
       have hlen:r.length=A0.length:=by have:=xp t;simpa using this.symm
       have hk:=List.all_eq_true.1 V _ (sP (·.i) t)
       have:=float a r t hk
       rw [hlen] at this
       exact this
   | cons σ y=>
     match σ,g,G,hX,float with
     | [],g,_,_,_=>simp at g
     | (i,true)::st,g,_,_,_=>simp at g
     | (i,false)::st,g,G,hX,float=>
       simp only [Bool.and_eq_true,Bool.not_eq_true'] at g
       obtain ⟨⟨⟨u,U⟩,V⟩,X⟩:=g
       have hlen:ej (((i,false)::st)::y)=st.length+1+ej y:=by simp [ej]
       obtain ⟨m,hm⟩:∃m,A'.length+ej (((i,false)::st)::y)+b.length=m+1:=⟨A'.length+st.length+ej y+b.length,by rw [hlen];omega⟩
       rw [hm]
       refine ⟨fun W=>(by rw [W] at u;cases u),fun j J=>?_⟩
       have h1:=List.all_eq_true.1 U j J
       have h2:j=i∨j∈A'.map (·.i):=by simpa using h1
       by_cases a5:j∈A'.map (·.i)
       · obtain ⟨a,ha,rfl⟩:=List.mem_map.1 a5
         obtain ⟨r,t⟩:=rn ha
         have ex:=xp t
         have hk:=List.all_eq_true.1 V _ (sP (·.i) t)
         have:=float a r t hk
         rw [show r.length+ej (((i,false)::st)::y)+b.length=m by omega] at this
         exact this
       · obtain rfl:j=i:=h2.resolve_right a5
         split at X
         · rename_i a4 hp
           have a9:(((j,false)::st).all fun p=>match (ops.getD p.1 default).dst with | some d=> !(A.map (·.d)).contains d | none=>true)=true∧qi ops (A.map (·.d)) y=true:=by
             unfold qi at G
             rw [List.all_cons,Bool.and_eq_true] at G
             exact G
           have be:=xG (ds:=A.map (·.d)) _ O _ w (FN a9.1) (hX C o w I)
           rw [EZ N] at be
           have d3:m=st.length+(A'.length+ej y+b.length):=by rw [hlen] at hm;omega
           rw [d3]
           refine qv M J am (fun O' d4 w' d5 d6=>?_) be
           refine gA M hs Y (f:=A'.length+ej y+b.length) (fun d7 bi d8 fd hk=>?_) st O' _ d4 w' hp d5 d6
           obtain ⟨⟨d9,F',el,em,eq⟩,es⟩:=hk
           refine Z k A' y a4 X a9.2 E d9 F' C d7 bi bi d8 bs (fun _ _=>rfl) (fun a ha=>?_) R el em eq
           rw [es a.d (List.mem_map_of_mem (E.mem_iff.1 (List.mem_append_left _ ha)))]
           exact H a ha
         · cases X
end
section
variable {P:Program} {n:Nat} {ops:Array Oper} {B:Nat} {w0:aC}
theorem PX.step {L:List Rg} {ds:List Nat} {Z:aC→List Rg→aW→Env→Prop} {σ:List (Nat×Bool)} {a:List (List (Nat×Bool))} {F:List Rg} {O:aW} {e:Env}
   (h:∀C z w,St B w0 (F ++(C ++L)) w→aa P n (fun O' c w'=>∃b F',St B b (F' ++(C ++L)) w'∧ae O' (F' ++L)∧PX P n ops B L ds Z a b F' O' c) (items ops σ) O (ov ds z e) w):PX P n ops B L ds Z (σ::a) w0 F O e:=h
theorem PX.done {L:List Rg} {ds:List Nat} {Z:aC→List Rg→aW→Env→Prop} {F:List Rg} {O:aW} {e:Env} (h:Z w0 F O e):PX P n ops B L ds Z [] w0 F O e:=h
theorem KE.step {G:Env→World→Prop} {F L:List Rg} {a:FA} {A:List FA} {R:List Rg} {e:Env} (h:∀b,KE G B w0 F L A (R ++ao b 0 a.ps) (an e a.d (.pointer (some ⟨b,0,none⟩)))):KE G B w0 F L (a::A) R e:=h
theorem KE.fin {G:Env→World→Prop} {F L:List Rg} {R:List Rg} {e:Env} (h:∀w,St B w0 (F ++(R ++L)) w→G e w):KE G B w0 F L [] R e:=h
theorem c_ {L:List Rg} {i:Nat} {r:Rg} (h:L[i]? =some r) (C:List Rg):(C ++L)[i+C.length]? =some r:=by
 rw [List.getElem?_append_right (by omega),Nat.add_sub_cancel];exact h
theorem C7 {L C:List Rg} {i:Nat} {r:Rg} (h:(C ++L)[i+C.length]? =some r):L[i]? =some r:=by
 rw [List.getElem?_append_right (by omega),Nat.add_sub_cancel] at h;exact h
end
section regions
variable {P:Program} {n:Nat} {R:Exit→Env→World→Prop} {e:Env} {w:World} {B:Nat} {w0:aC}
def vp (ops:Array Oper) (n:Nat) (A:List (Nat×Nat)) (b:List (Nat×Bool)) (a:List (List (Nat×Bool))) (c:List (Nat×Bool)):Bool:=
 Region.noSelect ops && Nat.ble n 1000000 && (b.length+(A.length+ej a+c.length)==ops.size) && qi ops (A.map (·.2)) a && decide ((A.map (·.2)).Nodup) &&
 (match eA ops b (Array.replicate ops.size false) with
   | some l=>jq ops c (A.map (·.1)) a l
   | none=>false)
def xQ (ops:Array Oper) (a:Nat×Nat×TypeId):Bool:=match ops[a.1]? with
 | some ⟨some d,.alloc t,_,_,_,none⟩=>d==a.2.1 && t==a.2.2
 | _=>false
inductive ll (P:Program):List (TypeId×List (Nat×(Nat→Value)))→Prop
 | nil:ll P []
 | cons {T:TypeId} {ps:List (Nat×(Nat→Value))} {l:List (TypeId×List (Nat×(Nat→Value)))} (h:cM P T ps) (t:ll P l):ll P ((T,ps)::l)
theorem ll.mem {P:Program} {l:List (TypeId×List (Nat×(Nat→Value)))} (h:ll P l):∀q∈l,cM P q.1 q.2:=by
 induction h with
 | nil=>intro q hq;cases hq
 | cons h t a=>
   intro q hq
   rcases List.mem_cons.1 hq with rfl | hq
   · exact h
   · exact a q hq
theorem fy {id:Nat} {ops:Array Oper} {L:List Rg} (hm:P.follows .mixedOrders=true) (A:List FA) (k:List (Nat×Bool)) (b:List (List (Nat×Bool))) (l:List (Nat×Bool))
   (q:vp ops n (A.map fun a=>(a.i,a.d)) k b l=true) (v:(A.map fun a=>(a.i,a.d,a.T)).all (xQ ops)=true) (m:ll P (A.map fun a=>(a.T,a.ps)))
   (h:aa P n (fun O' g w'=>∃j F',St B j (F' ++L) w'∧ae O' (F' ++L)∧PX P n ops B L (A.map (·.d)) (fun w0 F O e=>KE (fun e w=>aa P n (fun _ e w=>R .normal e w) (items ops l) O e w) B w0 F L A [] e) b j F' O' g) (items ops k) [] e w.drew):
   W P n (.region id ops true) R e w:=by
 simp only [vp,Bool.and_eq_true,beq_iff_eq,decide_eq_true_iff,List.length_map,List.map_map] at q
 obtain ⟨⟨⟨⟨⟨hs,r⟩,hl⟩,x⟩,y⟩,hp⟩:=q
 refine wp_region_any hm (tf _ [] _ _ _ ?_)
 split at hp
 · rename_i s u
   have z:∀a∈A,uF P ops a:=fun a ha=>by
     have h1:=List.all_eq_true.1 v _ (List.mem_map.2 ⟨a,ha,rfl⟩)
     refine ⟨?_,m.mem _ (List.mem_map.2 ⟨a,ha,rfl⟩)⟩
     unfold xQ at h1
     split at h1
     · rename_i d t ty pos aft he
       simp only [Bool.and_eq_true,beq_iff_eq] at h1
       obtain ⟨rfl,rfl⟩:=h1
       exact ⟨ty,pos,aft,he⟩
     · cases h1
   rw [← hl]
   rw [← hl] at u
   have hw:({ w with drawn:=w.drawn+1 }:World)=w.drew:=rfl
   rw [hw]
   refine gA (by simpa using r) hs (fun c a w hq=>hq) (f:=A.length+ej b+l.length) (fun O' g w' G hk=>?_) k [] _ e _ u (fun p hp=>by cases hp) h
   obtain ⟨j,F',C,D,o⟩:=hk
   refine Gx (L:=L) (A:=A) (by simpa using r) hs (fun c a w hq=>hq) z y (A.length+b.length+1) [] A b s (yp b s hp (A.length+b.length+1) [] (A.map (·.i)) (List.Perm.refl _) (by rw [List.length_map];omega)) x (List.Perm.refl _) j F' [] O' g g w' (fun _=>0) (fun _ _=>rfl) (fun a ha=>by cases ha) (List.Perm.refl _) C D ?_
   revert o
   generalize w.drew=wd at*
   intro o
   exact PX.mono (fun w0 F O e m=>KE.mono (fun e w hg=>aa.mono (fun O e w E=>⟨e,rfl,E⟩) _ _ _ _ hg) A _ _ m) b j F' O' g o
 · cases hp
end regions
end Go.LW
namespace Go.LW
set_option linter.unusedSimpArgs false
set_option linter.unusedVariables false
set_option linter.unusedSectionVars false
open Go Go.RowKit
structure EL where
 (α β:Type)
 sz:Nat
 E:β→α→List (Nat×(Nat→Value))
 val:β→α→Value
 ck:Value→Prop
 side:List Rg→β→α→Prop
 hlen:∀b x,(aS (E b x)).length=sz
 dQ:∀b x,fD (val b x)=aS (E b x)
 one:∀b x v,v∈aS (E b x)→v.oneCell'=true
 h9:∀b x v,v∈aS (E b x)→ck v
 mono:∀C L b x,side L b x→side (C ++L) b x
def EL.cells (D:EL) (L:List Rg) (G:Nat→Value) (x:D.α):Prop:=∃b,D.side L b x∧∀k v,(aS (D.E b x))[k]? =some v→G k=v
theorem EL.cells.app {D:EL} {L:List Rg} {G:Nat→Value} {x:D.α} (h:D.cells L G x) (C:List Rg):D.cells (C ++L) G x:=by
 obtain ⟨b,h1,h2⟩:=h
 exact ⟨b,D.mono C L b x h1,h2⟩
theorem EL.cells.congr {D:EL} {L:List Rg} {G a:Nat→Value} {x:D.α} (h:D.cells L G x) (c:∀k,k < D.sz→G k=a k):D.cells L a x:=by
 obtain ⟨b,h1,h2⟩:=h
 refine ⟨b,h1,fun k v hv=>?_⟩
 rw [← c k (by rw [← D.hlen b x];exact (List.getElem?_eq_some_iff.1 hv).1)]
 exact h2 k v hv
theorem EL.cells.one {D:EL} {L:List Rg} {G:Nat→Value} {x:D.α} (h:D.cells L G x) {k:Nat} (hk:k < D.sz):(G k).oneCell'=true:=by
 obtain ⟨b,h1,h2⟩:=h
 have a:k < (aS (D.E b x)).length:=by rw [D.hlen];exact hk
 rw [h2 k _ (List.getElem?_eq_getElem a)]
 exact D.one b x _ (List.getElem_mem a)
theorem EL.cells.ck {D:EL} {L:List Rg} {G:Nat→Value} {x:D.α} (h:D.cells L G x) {k:Nat} (hk:k < D.sz):D.ck (G k):=by
 obtain ⟨b,h1,h2⟩:=h
 have a:k < (aS (D.E b x)).length:=by rw [D.hlen];exact hk
 rw [h2 k _ (List.getElem?_eq_getElem a)]
 exact D.h9 b x _ (List.getElem_mem a)
def LV (D:EL) (L:List Rg) (i:Nat) (a:Option Addr) (len cc:Nat) (X:List D.α):Prop:=
 X.length=len∧len≤cc∧(0 < len→∃(c ms b os:Nat) (ps:Option Nat) (G:Nat→Value) (rw:Bool),L[i]? =some ⟨ps,c,ms,G,rw⟩∧ey a ps os len∧os=c+b∧b+len*D.sz≤ms∧∀j x,X[j]? =some x→D.cells L (fun k=>G (b+j*D.sz+k)) x)
structure LO (D:EL) (L:List Rg) (a:Option Addr) (pb:Option Nat) (len cap:Nat) (F:Nat→Value) (X:List D.α):Prop where
 ho:dI a pb cap
 hc:len≤cap
 hl:X.length=len
 hF:∀j x,X[j]? =some x→D.cells L (fun k=>F (j*D.sz+k)) x
 hK:∀q,q < cap*D.sz→D.ck (F q)
theorem LV.hl {D:EL} {L:List Rg} {i:Nat} {a:Option Addr} {len cc:Nat} {X:List D.α} (h:LV D L i a len cc X):X.length=len:=h.1
theorem LV.le {D:EL} {L:List Rg} {i:Nat} {a:Option Addr} {len cc:Nat} {X:List D.α} (h:LV D L i a len cc X):len≤cc:=h.2.1
theorem LV.nil {D:EL} {L:List Rg} (i:Nat) {a:Option Addr} {cc:Nat}:LV D L i a 0 cc []:=⟨rfl,Nat.zero_le _,fun h=>absurd h (Nat.lt_irrefl 0)⟩
theorem LV.app {D:EL} {L:List Rg} {i:Nat} {a:Option Addr} {len cc:Nat} {X:List D.α} (h:LV D L i a len cc X) (C:List Rg):LV D (C ++L) (i+C.length) a len cc X:=by
 obtain ⟨hl,hc,h⟩:=h
 refine ⟨hl,hc,fun b=>?_⟩
 obtain ⟨c,ms,d,os,ps,G,rw,h1,h2,h3,e,f⟩:=h b
 exact ⟨c,ms,d,os,ps,G,rw,by rw [List.getElem?_append_right (by omega),Nat.add_sub_cancel];exact h1,h2,h3,e,fun j x hx=>(f j x hx).app C⟩
def EL.flat (D:EL):Prop:=∀L L' b x,D.side L b x→D.side L' b x
theorem LV.move {D:EL} (hf:D.flat) {L L':List Rg} {i c:Nat} {a:Option Addr} {len cc:Nat} {X:List D.α} (h:LV D L i a len cc X) {r:Rg} (h1:L[i]? =some r) (h2:L'[c]? =some r):LV D L' c a len cc X:=by
 obtain ⟨hl,hc,h⟩:=h
 refine ⟨hl,hc,fun d=>?_⟩
 obtain ⟨e,ms,f,os,ps,G,rw,g1,g2,g3,g4,g5⟩:=h d
 rw [h1] at g1
 obtain rfl:=Option.some.inj g1
 exact ⟨e,ms,f,os,ps,G,rw,h2,g2,g3,g4,fun j x hx=>by
   obtain ⟨b,g,k⟩:=g5 j x hx
   exact ⟨b,hf _ _ _ _ g,k⟩⟩
def cG {α:Type} (X:List α) (lo hi:Nat):List α:=(X.drop lo).take (hi - lo)
theorem nk {α:Type} {X:List α} {lo hi:Nat} (h:lo≤hi∧hi≤X.length):(cG X lo hi).length=hi - lo:=by
 unfold cG;rw [List.length_take,List.length_drop];omega
theorem LV.cG {D:EL} {L:List Rg} {i:Nat} {a:Option Addr} {len cc:Nat} {X:List D.α} (h:LV D L i a len cc X) {lo hi:Nat} (hb:lo≤hi∧hi≤len):LV D L i (if cc=lo then a else a.map (·.add (lo*D.sz))) (hi - lo) (cc - lo) (cG X lo hi):=by
 obtain ⟨hl,hc,h⟩:=h
 refine ⟨nk (by omega),by omega,fun c=>?_⟩
 obtain ⟨d,ms,e,os,ps,G,rw,h1,h2,h3,n,f⟩:=h (by omega)
 have hm:(lo+(hi - lo))*D.sz=lo*D.sz+(hi - lo)*D.sz:=Nat.add_mul _ _ _
 have o:(lo+(hi - lo))*D.sz≤len*D.sz:=Nat.mul_le_mul_right _ (by omega)
 refine ⟨d,ms,e+lo*D.sz,os+lo*D.sz,ps,G,rw,h1,?_,by omega,by omega,fun j x hx=>?_⟩
 · intro c
   obtain ⟨b,g,l⟩:=h2 (by omega)
   refine ⟨b,g,?_⟩
   rw [if_neg (by omega),l]
   simp [Addr.add]
 · unfold LW.cG at hx
   have m:j < hi - lo:=by
     have:=(List.getElem?_eq_some_iff.1 hx).1
     rw [List.length_take] at this;omega
   rw [List.getElem?_take_of_lt m,List.getElem?_drop] at hx
   have:=f (lo+j) x hx
   rw [Nat.add_mul] at this
   refine this.congr fun k _=>?_
   show G _=G _
   congr 1;omega
theorem LO.lv {D:EL} {L0 L:List Rg} {a:Option Addr} {pb:Option Nat} {len cap:Nat} {F:Nat→Value} {X:List D.α} (h:LO D L0 a pb len cap F X) (hs:∀b x,D.side L0 b x→D.side L b x) (k:Nat) (c:L[k]? =some ⟨pb,0,cap*D.sz,F,true⟩):LV D L k a len cap X:=by
 refine ⟨h.hl,h.hc,fun _=>⟨0,cap*D.sz,0,0,pb,F,true,c,h.ho.sl h.hc,rfl,by rw [Nat.zero_add];exact Nat.mul_le_mul_right _ h.hc,fun j x hx=>?_⟩⟩
 obtain ⟨b,h1,h2⟩:=h.hF j x hx
 exact ⟨b,hs b x h1,fun k v hv=>by rw [Nat.zero_add];exact h2 k v hv⟩
theorem LO.nil {D:EL} {L:List Rg} {F:Nat→Value}:LO D L none none 0 0 F []:=⟨dI.nil,Nat.le_refl _,rfl,fun j x hx=>by simp at hx,fun q hq=>absurd hq (by simp)⟩
theorem LO.re {D:EL} {L0 L:List Rg} {a:Option Addr} {pb:Option Nat} {len cap:Nat} {F:Nat→Value} {X:List D.α} (h:LO D L0 a pb len cap F X) (hs:∀b x,D.side L0 b x→D.side L b x):LO D L a pb len cap F X:=
 ⟨h.ho,h.hc,h.hl,fun j x hx=>by
   obtain ⟨b,h1,h2⟩:=h.hF j x hx
   exact ⟨b,hs b x h1,h2⟩,h.hK⟩
theorem u0 {ps qs:List (Nat×(Nat→Value))} (h:aS ps=aS qs):AG ps=AG qs:=by unfold AG;rw [h]
theorem oX {α:Type} {X:List α} {j:Nat} (a:j < X.length) (b:α):X[j]? =some (X.getD j b):=by
 rw [List.getD_eq_getElem?_getD,List.getElem?_eq_getElem a];rfl
section keep
variable {P:Program} {B:Nat} {w0:aC} {w:World} {L:List Rg}
theorem Dd (h:St B w0 L w) {k:Nat} {r:Rg} (hk:k < L.length) (f:Nat→Value):St B w0 (L.set k r) w→St B w0 (r::L.set k ⟨none,0,0,f,true⟩) w:=fun h1=>by
 have h2:=h1.hP f
 refine h2.perm ?_
 have a:∀x:Rg,L.set k x=L.take k ++x::L.drop (k+1):=fun x=>List.set_eq_take_append_cons_drop.trans (by rw [if_pos hk])
 rw [a,a]
 have p1:(L.take k ++r::L.drop (k+1)).Perm (r::(L.take k ++L.drop (k+1))):=List.perm_middle
 have b:(L.take k ++(⟨none,0,0,f,true⟩:Rg)::L.drop (k+1)).Perm (⟨none,0,0,f,true⟩::(L.take k ++L.drop (k+1))):=List.perm_middle
 exact ((p1.cons _).trans (List.Perm.swap _ _ _)).trans (b.symm.cons _)
theorem B9 {r a:Rg} {k:Nat} (hk:k < L.length) (h:St B w0 (r::L.set k a) w):St B w0 (L.set k r) w:=by
 have h1:=h.tO (k:=k) (by simpa using hk)
 rw [List.set_set] at h1
 exact h1
theorem xR (d:St B w0 L w) {t t' ty:TypeId} {s D len cap n k:Nat} {z:Value} {zf:Nat→Value} {a:Option Addr} {pb:Option Nat} {F g:Nat→Value} {y:Value} (he:kI P t s D z) (K:z.cells.size=s) (M:∀q,q < s→z.cells[q]! =zf q) (e:L[k]? =some ⟨pb,0,cap*s,F,true⟩) (ho:dI a pb cap)
   (m:Src P s t' y n ((List.range (n*s)).map g) w) (E:len≤cap) (hb:(len+n)*D≤140737488355328) (ap:len+n < 9223372036854775808):
   ∃w' o p f ip r,(Builtin.append_ #[t,t'] ty #[.slice a len cap,y]).run P w= .ok (.slice o (len+n) f) w'∧dI o p f∧(len+n≤f∧cap≤f)∧
    St B w0 (⟨p,0,f*s,fun q=>if ip=true∨q < (len+n)*s then bh F (len*s) (n*s) g q else zf (q % s),true⟩::L.set k r) w'∧
    ((ip=true∧o=a∧p=pb∧f=cap)∨(ip=false∧r=⟨pb,0,cap*s,F,true⟩)):=by
 obtain ⟨el,i,hu,hi,N,O,Q⟩:=he
 subst N
 have hk:k < L.length:=(List.getElem?_eq_some_iff.1 e).1
 have G:(fun q=>if true=true∨q < (len+n)*i.size then bh F (len*i.size) (n*i.size) g q else zf (q % i.size))=bh F (len*i.size) (n*i.size) g:=by funext q;rw [if_pos (.inl rfl)]
 by_cases l:len+n≤cap
 · by_cases c:n=0
   · subst c
     refine ⟨w,a,pb,cap,true,⟨none,0,0,fun _=>undef,true⟩,run_append_nothing w t t' ty el i hu hi a len cap E y (by simpa using m),ho,⟨l,Nat.le_refl _⟩,?_,.inl ⟨rfl,rfl,rfl,rfl⟩⟩
     rw [G]
     have h1:bh F (len*i.size) (0*i.size) g=F:=by rw [Nat.zero_mul];funext q;rw [c7 _ _ _ _ _ (by omega)]
     rw [h1]
     refine Dd d hk _ ?_
     have h2:L.set k ⟨pb,0,cap*i.size,F,true⟩=L:=by
       obtain ⟨hk,u⟩:=List.getElem?_eq_some_iff.1 e
       rw [← u];exact List.set_getElem_self hk
     rw [h2];exact d
   · obtain ⟨b,v,ha⟩:∃b,pb=some b∧a=some ⟨b,0,none⟩:=by
       rcases ho with ⟨h1,_⟩ | h1
       · omega
       · exact h1
     subst v ha
     have h:len*i.size+n*i.size≤cap*i.size:=by rw [← Nat.add_mul];exact Nat.mul_le_mul_right _ l
     have H:=d.lh e h
     refine ⟨_,some ⟨b,0,none⟩,some b,cap,true,⟨none,0,0,fun _=>undef,true⟩,run_append_room_src w t t' ty el i hu hi b 0 len cap y n _ m l (fun j A=>(H j (by simpa using A)).1) (fun j A=>(H j (by simpa using A)).2),.inr ⟨b,rfl,rfl⟩,⟨l,Nat.le_refl _⟩,?_,.inl ⟨rfl,rfl,rfl,rfl⟩⟩
     rw [G]
     have C:=d.jL (g:=g) e (n*i.size) h
     have R:=C.hP (fun _=>undef)
     refine R.perm ?_
     have I:∀x:Rg,L.set k x=L.take k ++x::L.drop (k+1):=fun x=>List.set_eq_take_append_cons_drop.trans (by rw [if_pos hk])
     rw [I,I]
     exact ((List.perm_middle.cons _).trans (List.Perm.swap _ _ _)).trans ((List.perm_middle (l₁:=L.take k) (a:=(⟨none,0,0,fun _=>undef,true⟩:Rg)) (l₂:=L.drop (k+1))).symm.cons _)
 · have S:=grownCap_ge w (len+n) cap el
   have hold:(Builtin.firstCells i.size len (.slice a len cap)).run P w.drew= .ok ((List.range (len*i.size)).map F).toArray w.drew:=by
     by_cases c:len=0
     · subst c
       cases a with
       | none=>simp [Builtin.firstCells]
       | some a=>simp [Builtin.firstCells,loadCells];rfl
     · obtain ⟨b,v,ha⟩:∃b,pb=some b∧a=some ⟨b,0,none⟩:=by
         rcases ho with ⟨h1,_⟩ | h1
         · omega
         · exact h1
       subst v ha
       simp only [Builtin.firstCells]
       refine run_loadCells w.drew ⟨b,0,none⟩ (len*i.size) F (fun q hq=>?_)
       have h:len*i.size≤cap*i.size:=Nat.mul_le_mul_right _ E
       obtain ⟨T,U,V⟩:=d.drew.mem e q (show q < cap*i.size by omega)
       obtain rfl:b=T:=Option.some.inj U
       rw [Addr.add_mid]
       exact V
   have h:=growslice_fits (need:=len+n) (old:=cap) (bytes:=i.bytes) (by omega) (by rw [O];exact hb)
   have J:=run_append_grow_src (P:=P) w t t' ty el i z hu hi Q a len cap _ hold y n _ m (by omega) (by omega) h
   have a0:(len+n)*i.size+(grownCap w (len+n) cap el - (len+n))*i.size=grownCap w (len+n) cap el*i.size:=by rw [← Nat.add_mul];congr 1;omega
   have W:(len+n)*i.size=len*i.size+n*i.size:=Nat.add_mul _ _ _
   have X:(aS [(grownCap w (len+n) cap el*i.size,fun q=>if false=true∨q < (len+n)*i.size then bh F (len*i.size) (n*i.size) g q else zf (q % i.size))]).toArray=((List.range (len*i.size)).map F ++(List.range (n*i.size)).map g).toArray ++Builtin.zeroCells z.cells (grownCap w (len+n) cap el - (len+n)):=by
     apply Array.ext'
     apply List.ext_getElem?
     intro q
     rw [eg]
     have Y:(Builtin.zeroCells z.cells (grownCap w (len+n) cap el - (len+n))).toList=(List.range ((grownCap w (len+n) cap el - (len+n))*i.size)).map fun x=>zf (x % i.size):=by
       unfold Builtin.zeroCells
       rw [K]
       simp only [Array.toList_map,Array.toList_range]
       refine List.map_congr_left fun x hx=>?_
       have hx:=List.mem_range.1 hx
       have Z:0 < i.size:=by
         rcases Nat.eq_zero_or_pos i.size with c | c
         · rw [c] at hx;omega
         · exact c
       exact M _ (Nat.mod_lt _ Z)
     simp only [Array.toList_append,Y]
     by_cases h1:q < len*i.size
     · rw [List.append_assoc,List.getElem?_append_left (by simpa using h1)]
       simp [show q < grownCap w (len+n) cap el*i.size by omega,h1,show q < (len+n)*i.size by omega,bh,show¬(len*i.size≤q∧q < len*i.size+n*i.size) by omega]
     · rw [List.append_assoc,List.getElem?_append_right (by simpa using h1)]
       by_cases h2:q < (len+n)*i.size
       · rw [List.getElem?_append_left (by simp;omega)]
         simp [show q < grownCap w (len+n) cap el*i.size by omega,h2,bh,show len*i.size≤q∧q < len*i.size+n*i.size by omega,show q - len*i.size < n*i.size by omega]
       · rw [List.getElem?_append_right (by simp;omega)]
         by_cases h3:q < grownCap w (len+n) cap el*i.size
         · have am:(q - len*i.size - n*i.size) % i.size=q % i.size:=by
             have C:q=(q - len*i.size - n*i.size)+i.size*(len+n):=by rw [Nat.mul_comm i.size,W];omega
             conv=>rhs;rw [C]
             rw [Nat.add_mul_mod_self_left]
           simp [h3,h2,show q - len*i.size - n*i.size < (grownCap w (len+n) cap el - (len+n))*i.size by omega,am]
         · simp [h3,show¬(q - len*i.size - n*i.size < (grownCap w (len+n) cap el - (len+n))*i.size) by omega]
   rw [← X] at J
   refine ⟨_,some ⟨w.heap.size,0,none⟩,some w.heap.size,grownCap w (len+n) cap el,false,⟨pb,0,cap*i.size,F,true⟩,J,.inr ⟨_,rfl,rfl⟩,⟨S,by omega⟩,?_,.inr ⟨rfl,rfl⟩⟩
   have:=d.drew.alloc [(grownCap w (len+n) cap el*i.size,fun q=>if false=true∨q < (len+n)*i.size then bh F (len*i.size) (n*i.size) g q else zf (q % i.size))] el
   have h2:L.set k ⟨pb,0,cap*i.size,F,true⟩=L:=by
     obtain ⟨hk,u⟩:=List.getElem?_eq_some_iff.1 e
     rw [← u];exact List.set_getElem_self hk
   rw [h2]
   exact this
end keep
section run
variable {P:Program} {B:Nat} {w0:aC} {w:World} {L:List Rg}
theorem wa {a:Option Addr} {pb:Option Nat} {s o len cap c off m j:Nat} {f:Nat→Value} {rw:Bool} (e:St B w0 L w) {k:Nat} (g:L[k]? =some ⟨pb,off,m,f,rw⟩) (hs:ey a pb o len) (ho:o=off+j) (hc:c≤len) (n:j+c*s≤m):
   (Builtin.firstCells s c (.slice a len cap)).run P w= .ok ((List.range (c*s)).map fun q=>f (j+q)).toArray w:=by
 by_cases h:c=0
 · subst h
   cases a with
   | none=>simp [Builtin.firstCells]
   | some a=>simp [Builtin.firstCells,loadCells];rfl
 · obtain ⟨b,hp,ha⟩:=hs (by omega)
   subst ha
   simp only [Builtin.firstCells]
   refine run_loadCells w ⟨b,o,none⟩ (c*s) (fun q=>f (j+q)) (fun q hq=>?_)
   obtain ⟨i,d,l⟩:=e.mem g (j+q) (show j+q < m by omega)
   simp only at d
   obtain rfl:b=i:=by rw [hp] at d;exact Option.some.inj d
   rw [Addr.add_mid,ho,Nat.add_assoc,l]
theorem D8 (j:St B w0 L w) {t t' ty:TypeId} {s f len cap n k:Nat} {z:Value} {zf:Nat→Value} {a:Option Addr} {pb:Option Nat} {F g:Nat→Value} {y:Value} (he:kI P t s f z) (l:z.cells.size=s) (m:∀q,q < s→z.cells[q]! =zf q) (h:L[k]? =some ⟨pb,0,cap*s,F,true⟩) (ho:dI a pb cap)
   (o:Src P s t' y n ((List.range (n*s)).map g) w) (p:len≤cap) (hb:(len+n)*f≤140737488355328) (u:len+n < 9223372036854775808):
   ∃w' c d b ip,(Builtin.append_ #[t,t'] ty #[.slice a len cap,y]).run P w= .ok (.slice c (len+n) b) w'∧dI c d b∧len+n≤b∧St B w0 (L.set k ⟨d,0,b*s,fun q=>if ip=true∨q < (len+n)*s then bh F (len*s) (n*s) g q else zf (q % s),true⟩) w'∧(ip=true→b≤cap):=by
 have hk:k < L.length:=(List.getElem?_eq_some_iff.1 h).1
 obtain ⟨w',c,d,b,ip,r,h1,h2,h3,v,e⟩:=xR (P:=P) (ty:=ty) j he l m h ho o p hb u
 refine ⟨w',c,d,b,ip,h1,h2,h3.1,B9 hk v,fun i=>?_⟩
 rcases e with ⟨_,_,_,e⟩ | ⟨e,_⟩
 · omega
 · rw [e] at i;cases i
theorem rD {D:EL} (f:St B w0 L w) {t' b:TypeId} (hk:P.underlying t'=some (.slice b)) {a:Option Addr} {m len cap:Nat} {X:List D.α} (h:LV D L m a len cap X):
   ∃g:Nat→Value,Src P D.sz t' (.slice a len cap) len ((List.range (len*D.sz)).map g) w∧∀j x,X[j]? =some x→D.cells L (fun k=>g (j*D.sz+k)) x:=by
 obtain ⟨hl,hc,h⟩:=h
 by_cases n:0 < len
 · obtain ⟨p,ms,c,os,ps,G,rw,h1,h2,h3,i,l⟩:=h n
   refine ⟨fun q=>G (c+q),⟨.inl ⟨b,hk⟩,fun _=>rfl,wa f h1 h2 h3 (Nat.le_refl _) i,wa f.drew h1 h2 h3 (Nat.le_refl _) i,by simp,fun u hu=>?_⟩,fun j x hx=>?_⟩
   · obtain ⟨q,hq,rfl⟩:=List.mem_map.1 hu
     have hq:=List.mem_range.1 hq
     have hs:0 < D.sz:=by
       rcases Nat.eq_zero_or_pos D.sz with d | d
       · rw [d,Nat.mul_zero] at hq;omega
       · exact d
     have o:q / D.sz < X.length:=by rw [hl];exact (Nat.div_lt_iff_lt_mul hs).2 hq
     have:=(l _ _ (List.getElem?_eq_getElem o)).one (Nat.mod_lt q hs)
     have e:c+q / D.sz*D.sz+q % D.sz=c+q:=by rw [Nat.add_assoc,Nat.div_add_mod']
     rw [e] at this
     exact this
   · refine (l j x hx).congr fun k _=>?_
     show G _=G _
     congr 1;omega
 · obtain rfl:len=0:=by omega
   refine ⟨fun _=>undef,⟨.inl ⟨b,hk⟩,fun _=>rfl,?_,?_,by simp,by simp⟩,fun j x hx=>?_⟩
   · cases a <;> simp [Builtin.firstCells,loadCells]
     all_goals rfl
   · cases a <;> simp [Builtin.firstCells,loadCells]
     all_goals rfl
   · have:=(List.getElem?_eq_some_iff.1 hx).1
     omega
end run
section step
variable {P:Program} {n:Nat} {K:aW→Env→World→Prop} {l:List It} {O O':aW} {e:Env} {w:World} {i ty:Nat} {d:Tmp} {pos:String} {aft:Array Edge} {gd g:Option (Nat×Bool)}
variable {B:Nat} {w0:aC} {L L':List Rg} {D:EL}
theorem y_ {t:TypeId} {x y:Operand} {k:IntKind} {c len cc j sz:Nat} {a:Option Addr} {X:List D.α} (hX:LV D L c a len cc X) (ha:dc P t sz=true) (hg:aI n e g=true) (hx:ev n e x= .slice a len cc) (hy:ev n e y= .int k (j:Int)) (f:j < len)
   (h:aa P n K l O (an e d (.pointer (a.map fun z=>⟨z.block,z.off+j*sz,none⟩))) w):aa P n K (⟨i,true,⟨some d,.indexAddr t x y,ty,pos,aft,gd⟩,g⟩::l) O e w:=by
 obtain ⟨hl,hc,hX⟩:=hX
 obtain ⟨o,ms,p,os,ps,G,rw,h1,h2,h3⟩:=hX (by omega)
 obtain ⟨b,q,m⟩:=h2 (by omega)
 subst m
 exact uy ha hg hx hy f h
theorem yy {len j a ms s:Nat} (b:j < len) (c:a+len*s≤ms):a+j*s+s≤ms:=by
 have h1:(j+1)*s≤len*s:=Nat.mul_le_mul_right _ b
 rw [Nat.succ_mul] at h1
 omega
theorem ht (p:St B w0 L w) {t:TypeId} {x:Operand} {k len cc j sz:Nat} {a:Option Addr} {X:List D.α} (c:D.α) (hX:LV D L k a len cc X) (hg:aI n e g=true) (hx:ev n e x= .pointer (a.map fun z=>⟨z.block,z.off+j*sz,none⟩)) (s:j < len) (u:D.sz=sz) (v:cz P t sz=true)
   (h:∀b r,D.side L b (X.getD j c)→L[k]? =some r→aa P n K l ((i,r.at)::O) (an e d (AG (D.E b (X.getD j c)))) w):aa P n K (⟨i,true,⟨some d,.load t x,ty,pos,aft,gd⟩,g⟩::l) O e w:=by
 subst u
 obtain ⟨hl,hc,hX⟩:=hX
 obtain ⟨y,ms,m,os,ps,G,rw,h1,h2,h3,A,C⟩:=hX (by omega)
 obtain ⟨b,F,H⟩:=h2 (by omega)
 subst H F
 obtain ⟨f,s1,s2⟩:=C j _ (oX (by omega) c)
 have I:ev n e x= .pointer (some ⟨b,y+(m+j*D.sz),none⟩):=by rw [hx,← Nat.add_assoc,← h3];rfl
 refine lf p k (m+j*D.sz) hg I h1 rfl (yy s A) v ?_
 have J:=h f _ s1 h1
 have M:AG [(D.sz,fun q=>G (m+j*D.sz+q))]=AG (D.E f (X.getD j c)):=by
   refine u0 ?_
   rw [eg]
   have hlen:=D.hlen f (X.getD j c)
   apply List.ext_getElem?
   intro q
   by_cases hq:q < D.sz
   · have o:q < (aS (D.E f (X.getD j c))).length:=by rw [hlen];exact hq
     rw [List.getElem?_eq_getElem o,List.getElem?_map,List.getElem?_range hq]
     exact congrArg some (s2 q _ (List.getElem?_eq_getElem o))
   · rw [List.getElem?_eq_none (by simpa using hq),List.getElem?_eq_none (by omega)]
 rw [M]
 exact J
theorem An (q:St B w0 L w) {t:TypeId} {x:Operand} {c len cc j:Nat} {a:Option Addr} {X:List D.α} (f:D.α) (v:D.β→D.α→Value) (hX:LV D L c a len cc X) (hg:aI n e g=true) (hx:ev n e x= .pointer (a.map fun z=>⟨z.block,z.off+j*1,none⟩)) (M:j < len) (k:D.sz=1) (hv:∀b y,(aS (D.E b y))[0]? =some (v b y)) (s:dC P t=true)
   (h:∀b r,D.side L b (X.getD j f)→L[c]? =some r→aa P n K l ((i,r.at)::O) (an e d (v b (X.getD j f))) w):aa P n K (⟨i,true,⟨some d,.load t x,ty,pos,aft,gd⟩,g⟩::l) O e w:=by
 obtain ⟨hl,hc,hX⟩:=hX
 obtain ⟨u,ms,m,os,ps,G,rw,h1,h2,h3,A,C⟩:=hX (by omega)
 obtain ⟨b,F,H⟩:=h2 (by omega)
 subst H F
 obtain ⟨o,s1,s2⟩:=C j _ (oX (by omega) f)
 have I:ev n e x= .pointer (some ⟨b,u+(m+j),none⟩):=by rw [hx,← Nat.add_assoc,← h3,Nat.mul_one];rfl
 have J:=h o _ s1 h1
 have p:G (m+j*D.sz+0)=_:=s2 0 _ (hv o _)
 rw [k,Nat.mul_one,Nat.add_zero] at p
 rw [k] at A
 refine bk q c hg I h1 (by omega) s ?_
 rw [p]
 exact J
theorem LO.set {a:Option Addr} {pb:Option Nat} {len cap j:Nat} {F f':Nat→Value} {X:List D.α} {y:D.α} (hO:LO D L a pb len cap F X) (b:j < len) (hy:D.cells L f' y):LO D L a pb len cap (bh F (j*D.sz) D.sz f') (X.set j y):=by
 refine ⟨hO.ho,hO.hc,by rw [List.length_set];exact hO.hl,fun q x hx=>?_,fun q hq=>?_⟩
 rotate_left
 · by_cases h:j*D.sz≤q∧q < j*D.sz+D.sz
   · rw [eh _ _ _ _ _ h];exact hy.ck (by omega)
   · rw [c7 _ _ _ _ _ h];exact hO.hK q hq
 by_cases hq:q=j
 · subst hq
   rw [List.getElem?_set_self (by rw [hO.hl];exact b)] at hx
   obtain rfl:=Option.some.inj hx
   refine hy.congr fun k hk=>?_
   rw [eh _ _ _ _ _ ⟨by omega,by omega⟩]
   congr 1;omega
 · rw [List.getElem?_set_ne (Ne.symm hq)] at hx
   refine (hO.hF q x hx).congr fun k hk=>?_
   rw [c7 _ _ _ _ _ ?_]
   rintro ⟨h1,h2⟩
   rcases Nat.lt_or_gt_of_ne hq with h3 | h3
   · have:(q+1)*D.sz≤j*D.sz:=Nat.mul_le_mul_right _ h3
     rw [Nat.succ_mul] at this
     omega
   · have:(j+1)*D.sz≤q*D.sz:=Nat.mul_le_mul_right _ h3
     rw [Nat.succ_mul] at this
     omega
theorem vj {L:List Rg} {X:List D.α} {g:Nat→Value} {m:Nat} (hm:X.length=m) (hg:∀j x,X[j]? =some x→D.cells L (fun k=>g (j*D.sz+k)) x) {q:Nat} (hq:q < m*D.sz):D.ck (g q):=by
 have hs:0 < D.sz:=by
   rcases Nat.eq_zero_or_pos D.sz with a | a
   · rw [a,Nat.mul_zero] at hq;omega
   · exact a
 have b:q / D.sz < X.length:=by rw [hm];exact (Nat.div_lt_iff_lt_mul hs).2 hq
 have:=(hg _ _ (List.getElem?_eq_getElem b)).ck (Nat.mod_lt q hs)
 rw [Nat.div_add_mod'] at this
 exact this
theorem ys {L0 L:List Rg} {len cap m c:Nat} {a:Option Addr} {pb:Option Nat} {F d:Nat→Value} {X Y:List D.α} {z:Value} {e:D.β} {f:D.α} {ip:Bool} (hO:LO D L0 a pb len cap F X) (g:z.cells.toList=aS (D.E e f)) (i:Y.length=m) (l:∀j x,Y[j]? =some x→D.cells L (fun k=>d (j*D.sz+k)) x) (n:ip=true→c≤cap) (q:Nat) (hq:q < c*D.sz):
   D.ck (if ip=true∨q < (len+m)*D.sz then bh F (len*D.sz) (m*D.sz) d q else z.cells[q % D.sz]!):=by
 by_cases h1:ip=true∨q < (len+m)*D.sz
 · rw [if_pos h1]
   by_cases h2:len*D.sz≤q∧q < len*D.sz+m*D.sz
   · rw [eh _ _ _ _ _ h2];exact vj i l (by omega)
   · rw [c7 _ _ _ _ _ h2]
     refine hO.hK q ?_
     rcases h1 with h1 | h1
     · exact Nat.lt_of_lt_of_le hq (Nat.mul_le_mul_right _ (n h1))
     · rw [Nat.add_mul] at h1
       have:len*D.sz≤cap*D.sz:=Nat.mul_le_mul_right _ hO.hc
       omega
 · rw [if_neg h1]
   have hs:0 < D.sz:=by
     rcases Nat.eq_zero_or_pos D.sz with b | b
     · rw [b,Nat.mul_zero] at hq;omega
     · exact b
   have o:z.cells.size=D.sz:=by rw [← Array.length_toList,g,D.hlen]
   have h:q % D.sz < z.cells.size:=by rw [o];exact Nat.mod_lt _ hs
   refine D.h9 e f _ ?_
   rw [← g,Array.getElem!_eq_getD,Array.getD_eq_getD_getElem?,Array.getElem?_eq_getElem h]
   exact Array.getElem_mem_toList h
theorem j9 (C:St B w0 L w) {L0:List Rg} {t t' Q:TypeId} {x y:Operand} {len cap m G R sz H:Nat} {a I:Option Addr} {pb:Option Nat} {F:Nat→Value} {X Y:List D.α} {z:Value} (S:D.β) (T:D.α) (k:Nat) (hO:LO D L0 a pb len cap F X) (U:D.sz=sz) (he:eT P t=some (sz,H,some z)) (J:z.cells.toList=aS (D.E S T)) (V:P.underlying t'=some (.slice Q)) (hg:aI n e g=true)
   (hx:ev n e x= .slice a len cap) (hy:ev n e y= .slice I m G) (W:L[k]? =some ⟨pb,0,cap*sz,F,true⟩) (s:LV D L R I m G Y) (Z:∀b x,D.side L b x→D.side L0 b x) (hb:(len+m)*H≤140737488355328) (am:len+m < 9223372036854775808)
   (hw:∀r,av aft O (L.set k r) O')
   (h:∀o p f (F':Nat→Value) w',LO D L0 o p (X ++Y).length f F' (X ++Y)→St B w0 (L.set k ⟨p,0,f*sz,F',true⟩) w'→aa P n K l O' (cv e (some d) (.slice o (X ++Y).length f)) w'):
   aa P n K (⟨i,false,⟨some d,.call ⟨.builtin .append,#[x,y],#[t,t']⟩,ty,pos,aft,gd⟩,g⟩::l) O e w:=by
 subst U
 have ap:z.cells.size=D.sz:=by rw [← Array.length_toList,J,D.hlen]
 obtain ⟨a0,a2,M⟩:=rD C V s
 obtain ⟨w',o,p,f,ip,N,fi,a3,a4,a5⟩:=D8 (P:=P) (ty:=ty) (zf:=fun q=>z.cells[q]!) C (hZ he) ap (fun q hq=>rfl) W hO.ho a2 hO.hc hb am
 have hl:(X ++Y).length=len+m:=by rw [List.length_append,hO.hl,s.hl]
 have u:LO D L0 o p (len+m) f (fun q=>if ip=true∨q < (len+m)*D.sz then bh F (len*D.sz) (m*D.sz) a0 q else z.cells[q % D.sz]!) (X ++Y):=by
   refine ⟨fi,a3,hl,fun j x hx=>?_,ys hO J s.hl M a5⟩
   have a9:j < len+m:=by rw [← hl];exact (List.getElem?_eq_some_iff.1 hx).1
   have A:∀k,k < D.sz→j*D.sz+k < (len+m)*D.sz:=fun k hk=>by
     have:(j+1)*D.sz≤(len+m)*D.sz:=Nat.mul_le_mul_right _ a9
     rw [Nat.succ_mul] at this
     omega
   by_cases h1:j < X.length
   · rw [List.getElem?_append_left h1] at hx
     refine (hO.hF j x hx).congr fun k hk=>?_
     rw [if_pos (.inr (A k hk)),c7]
     rintro ⟨h2,_⟩
     have:(j+1)*D.sz≤len*D.sz:=Nat.mul_le_mul_right _ (by rw [hO.hl] at h1;exact h1)
     rw [Nat.succ_mul] at this
     omega
   · rw [List.getElem?_append_right (by omega)] at hx
     obtain ⟨b,s1,s2⟩:=M _ x hx
     refine EL.cells.congr ⟨b,Z b x s1,s2⟩ fun k hk=>?_
     have bi:j*D.sz=len*D.sz+(j - X.length)*D.sz:=by rw [← Nat.add_mul,hO.hl];congr 1;rw [hO.hl] at h1;omega
     have bv:(j - X.length)*D.sz+k < m*D.sz:=by
       have:=A k hk
       rw [Nat.add_mul] at this
       omega
     rw [if_pos (.inr (A k hk)),eh _ _ _ _ _ ⟨by omega,by omega⟩]
     congr 1;omega
 rw [← hl] at N u
 refine gK hg (w':=w') (v:= .slice o (X ++Y).length f) (kn fun c=>?_) a4 (hw _) fun w' be=>h o p f _ w' ?_ be
 · rw [hx,hy]
   simp only [builtin,Sem.run_bind,N]
   rfl
 · rw [hl] at u ⊢;exact u
def ku (D:EL):Nat→List (D.β×D.α)→List (Nat×Value)
 | _,[]=> []
 | q,p::xs=>(q,D.val p.1 p.2)::ku D (q+1) xs
theorem ua:∀(xs:List (D.β×D.α)) (q:Nat) (A C:List Value),A.length=q*D.sz→C.length=xs.length*D.sz→eF (fun i=>some (i*D.sz,D.sz)) (A ++C) (ku D q xs)=some (A ++xs.flatMap fun p=>aS (D.E p.1 p.2))
 | [],q,A,C,_,a=>by
   have:C= []:=List.length_eq_zero_iff.1 (by simpa using a)
   subst this
   simp [ku,eF]
 | p::xs,q,A,C,b,a=>by
   have e:C.length=D.sz+xs.length*D.sz:=by rw [a,List.length_cons,Nat.succ_mul,Nat.add_comm]
   have d:A ++C=A ++C.take D.sz ++C.drop D.sz:=by rw [List.append_assoc,List.take_append_drop]
   have c:(C.take D.sz).length=D.sz:=by rw [List.length_take];omega
   show eF _ (A ++C) ((q,D.val p.1 p.2)::ku D (q+1) xs)=_
   rw [d,so (A:=A) (Z:=C.take D.sz) (C:=C.drop D.sz) (Y:=aS (D.E p.1 p.2)) (by rw [b,c]) (by rw [c];exact D.hlen _ _) (D.dQ _ _)]
   rw [ua xs (q+1) (A ++aS (D.E p.1 p.2)) (C.drop D.sz) (by rw [List.length_append,b,D.hlen,Nat.succ_mul]) (by rw [List.length_drop];omega)]
   rw [List.flatMap_cons,List.append_assoc]
theorem yz:∀(xs:List (D.β×D.α)) (j:Nat) (p:D.β×D.α) (k:Nat) (v:Value),xs[j]? =some p→(aS (D.E p.1 p.2))[k]? =some v→(xs.flatMap fun p=>aS (D.E p.1 p.2))[j*D.sz+k]? =some v
 | q::xs,0,p,k,v,h,hv=>by
   obtain rfl:q=p:=by simpa using h
   rw [List.flatMap_cons,Nat.zero_mul,Nat.zero_add,List.getElem?_append_left (List.getElem?_eq_some_iff.1 hv).1]
   exact hv
 | q::xs,j+1,p,k,v,h,hv=>by
   have a:=yz xs j p k v (by simpa using h) hv
   rw [List.flatMap_cons,List.getElem?_append_right (by rw [D.hlen,Nat.succ_mul];omega),D.hlen,Nat.succ_mul,show j*D.sz+D.sz+k - D.sz=j*D.sz+k by omega]
   exact a
theorem tN:∀xs:List (D.β×D.α),(xs.flatMap fun p=>aS (D.E p.1 p.2)).length=xs.length*D.sz
 | []=>by simp
 | q::xs=>by rw [List.flatMap_cons,List.length_append,D.hlen,tN xs,List.length_cons,Nat.succ_mul,Nat.add_comm]
theorem iB (f:St B w0 L w) {t el:TypeId} {len sz:Nat} {parts:Array (Nat×Operand)} {z:Value} (xs:List (D.β×D.α)) (hu:P.underlying t=some (.slice el)) (hs:bN P el sz=true) (m:(P.info? el).bind (·.zero)=some z)
   (hl:0 < len*sz) (o:len*sz≤16777216) (hg:aI n e g=true) (r:D.sz=sz) (a:xs.length=len)
   (hv:parts.toList.map (fun p=>(p.1,ev n e p.2))=ku D 0 xs) (hX:∀p∈xs,D.side L p.1 p.2) (hO:av aft O L O')
   (h:∀b w' F,B≤b→LO D L (some ⟨b,0,none⟩) (some b) (xs.map (·.2)).length len F (xs.map (·.2))→St B w0 (⟨some b,0,len*sz,F,true⟩::L) w'→aa P n K l O' (an e d (.slice (some ⟨b,0,none⟩) (xs.map (·.2)).length len)) w'):
   aa P n K (⟨i,false,⟨some d,.buildSlice t len parts,ty,pos,aft,gd⟩,g⟩::l) O e w:=by
 subst r
 have hlen:=tN xs
 rw [a] at hlen
 have s:aS [(len*D.sz,fun q=>(xs.flatMap fun p=>aS (D.E p.1 p.2)).getD q undef)]=xs.flatMap fun p=>aS (D.E p.1 p.2):=by
   rw [eg]
   apply List.ext_getElem?
   intro q
   by_cases hq:q < len*D.sz
   · rw [List.getElem?_map,List.getElem?_range hq,oX (by omega) undef];rfl
   · rw [List.getElem?_eq_none (by simpa using hq),List.getElem?_eq_none (by omega)]
 have hf:eF (fun i=>some (i*D.sz,D.sz)) ((List.range (len*D.sz)).map fun i=>z.cells[i % z.cells.size]!) (ku D 0 xs)=some (aS [(len*D.sz,fun q=>(xs.flatMap fun p=>aS (D.E p.1 p.2)).getD q undef)]):=by
   rw [s]
   have:=ua xs 0 [] ((List.range (len*D.sz)).map fun i=>z.cells[i % z.cells.size]!) (by simp) (by simp [a])
   simpa using this
 refine aa.buildSlice (ps:= [(len*D.sz,fun q=>(xs.flatMap fun p=>aS (D.E p.1 p.2)).getD q undef)]) f hu hs m hl o hg hv hf hO (fun b w' hb u=>?_)
 have hm:(xs.map (·.2)).length=len:=by rw [List.length_map,a]
 have:=h b w' (fun q=>(xs.flatMap fun (p:D.β×D.α)=>aS (D.E p.1 p.2)).getD q undef) hb ⟨.inr ⟨b,rfl,rfl⟩,by rw [hm];exact Nat.le_refl _,rfl,fun j x hx=>by
   rw [List.getElem?_map] at hx
   cases hq:xs[j]? with
   | none=>rw [hq] at hx;cases hx
   | some p=>
     rw [hq] at hx
     obtain rfl:p.2=x:=by simpa using hx
     exact ⟨p.1,hX p (List.mem_of_getElem? hq),fun k v hv=>by
       show List.getD _ _ _=v
       rw [List.getD_eq_getElem?_getD,yz xs j p k v hq hv];rfl⟩,fun q hq=>by
   have c:q < (xs.flatMap fun (p:D.β×D.α)=>aS (D.E p.1 p.2)).length:=by rw [hlen];exact hq
   rw [List.getD_eq_getElem?_getD,List.getElem?_eq_getElem c]
   obtain ⟨p,_,hv⟩:=List.mem_flatMap.1 (List.getElem_mem c)
   exact D.h9 _ _ _ hv⟩ u
 rw [hm] at this
 exact this
end step
end Go.LW
