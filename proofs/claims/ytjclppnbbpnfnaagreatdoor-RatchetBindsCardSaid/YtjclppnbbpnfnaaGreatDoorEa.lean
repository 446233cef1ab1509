import Derived.WalkKit
import Derived.OrdersHeld
import Derived.Deep.MidRow
import Derived.Deep.Upon
import Derived.ChangeKeysEq
import Derived.Laws.Pointers
import Derived.Lib.LaidTab
import Derived.Laws.BytesArg
import Derived.Lib.SlBytesConst
import Derived.Laws.MakeOwn
namespace Go.LW
set_option linter.unusedSimpArgs false
set_option linter.unusedVariables false
set_option linter.unusedSectionVars false
open Go Go.RowKit
abbrev Env:=Nat→Value
def an {α:Type} (e:Nat→α) (d:Nat) (v:α):Nat→α:=fun i=>cond (Nat.beq i d) v (e i)
theorem da {α:Type} (e:Nat→α) (d:Nat) (v:α) (i:Nat):an e d v i=if i=d then v else e i:=by
 show cond (Nat.beq i d) v (e i)=_
 cases hb:Nat.beq i d with
 | true=>simp [Nat.eq_of_beq_eq_true hb]
 | false=>simp [Nat.ne_of_beq_eq_false hb]
def cv (e:Env) (d:Option Nat) (v:Value):Env:=match d with | some d=>an e d v | none=>e
theorem fz {α:Type} (e:Nat→α) (d:Nat) (v:α):an e d v d=v:=by simp [da]
theorem eR {α:Type} (e:Nat→α) (d:Nat) (v:α) (i:Nat) (h:i≠d):an e d v i=e i:=by simp [da,h]
def act (n:Nat) (e:Env):Act:= { tmps:=Array.ofFn (n:=n) fun i=>e i.val,defers:= [] }
def ev (n:Nat) (e:Env):Operand→Value
 | .tmp t=>cond (Nat.blt t n) (e t) undef
 | .const v=>v
 | .global g=> .pointer (some ⟨g,0,none⟩)
 | .func f=> .func (.func f) #[] #[]
theorem ui (n:Nat) (e:Env) (t:Nat):ev n e (.tmp t)=if t < n then e t else undef:=by
 show cond (Nat.blt t n) (e t) undef=_
 by_cases h:t < n
 · have:Nat.blt t n=true:=by simpa [Nat.blt_eq] using h
   simp [h,this]
 · have:Nat.blt t n=false:=by
     cases hb:Nat.blt t n with
     | false=>rfl
     | true=>exact absurd (by simpa [Nat.blt_eq] using hb) h
   simp [h,this]
theorem uK (n:Nat) (e:Env) (t:Nat):(act n e).tmps[t]? =if t < n then some (e t) else none:=by
 unfold act
 by_cases h:t < n
 · simp [h]
 · simp [h]
theorem iS (n:Nat) (e:Env):(act n e).eval=ev n e:=by
 funext x
 cases x with
 | tmp t=>
   show (act n e).tmps.getD t undef=cond (Nat.blt t n) (e t) undef
   rw [Array.getD_eq_getD_getElem?,uK]
   by_cases h:t < n
   · have:Nat.blt t n=true:=by simpa [Nat.blt_eq] using h
     simp [h,this]
   · have:Nat.blt t n=false:=by
       cases hb:Nat.blt t n with
       | false=>rfl
       | true=>exact absurd (by simpa [Nat.blt_eq] using hb) h
     simp [h,this]
 | const v=>rfl
 | global g=>rfl
 | func f=>rfl
theorem hj (n:Nat) (e:Env) (d:Option Nat) (v:Value):(act n e).put d v=act n (cv e d v):=by
 cases d with
 | none=>rfl
 | some d=>
   show (⟨(Array.ofFn (n:=n) fun i=>e i.val).setIfInBounds d v,[]⟩:Act)=⟨Array.ofFn (n:=n) fun i=>an e d v i.val,[]⟩
   congr 1
   apply Array.ext_getElem?
   intro i
   rw [Array.getElem?_setIfInBounds]
   by_cases a:d=i
   · subst a
     by_cases b:d < n <;> simp [b,da]
   · by_cases b:i < n <;> simp [a,b,da,Ne.symm a]
theorem EF (n:Nat) (args:Array Value) (h:args.size≤n):
   ({ tmps:=args ++Array.replicate (n - args.size) undef,defers:= [] }:Act)=act n (fun i=>args.getD i undef):=by
 unfold act
 congr 1
 apply Array.ext
 · simp;omega
 · intro i h1 h2
   simp only [Array.getElem_ofFn]
   by_cases hi:i < args.size
   · rw [Array.getElem_append_left hi];simp [hi]
   · rw [Array.getElem_append_right (by omega)];simp [hi]
def QE (n:Nat) (R:Exit→Env→World→Prop):Exit→Act→World→Prop
 | .panic _,_,_=>False
 | .outgrown,_,_=>False
 | x,a,w=>∃e,a=act n e∧R x e w
def W (P:Program) (n:Nat) (c:Code) (R:Exit→Env→World→Prop) (e:Env) (w:World):Prop:=c.wp P (QE n R) (act n e) w
def ef (K:Env→World→Prop) (R:Exit→Env→World→Prop):Exit→Env→World→Prop
 | .normal,e,w=>K e w
 | x,e,w=>R x e w
def lG (id:Nat) (R:Exit→Env→World→Prop):Exit→Env→World→Prop
 | .exit lF,e,w=>if lF=id then R .normal e w else R (.exit lF) e w
 | x,e,w=>R x e w
section code
variable {P:Program} {n:Nat} {R:Exit→Env→World→Prop} {e:Env} {w:World}
theorem W.mono {c:Code} {b:Exit→Env→World→Prop} (h:W P n c R e w) (d:∀x e w,R x e w→b x e w):W P n c b e w:=
 wp_mono h fun x a w hq=>by
   cases x <;> first | exact hq | (obtain ⟨e,he,f⟩:=hq;exact ⟨e,he,d _ _ _ f⟩)
theorem W.seq {x y:Code} (h:W P n x (ef (fun e w=>W P n y R e w) R) e w):W P n (.seq x y) R e w:=
 wp_seq (wp_mono h fun ex a w hq=>by
   cases ex <;> first | exact hq | (obtain ⟨e,he,b⟩:=hq;subst he;exact b) | (obtain ⟨e,he,b⟩:=hq;exact ⟨e,he,b⟩))
theorem ad {x y:Code} (h:∀K:Env→World→Prop,(∀e w,W P n y R e w→K e w)→W P n x (ef K R) e w):W P n (.seq x y) R e w:=
 W.seq (h _ fun _ _ h=>h)
theorem W.skip (h:R .normal e w):W P n .skip R e w:=wp_skip (P:=P) (Q:=QE n R) ⟨e,rfl,h⟩
theorem W.exit {id:Nat} (h:R (.exit id) e w):W P n (.exit id) R e w:=wp_exit (P:=P) (Q:=QE n R) ⟨e,rfl,h⟩
theorem W.ret (h:R .ret e w):W P n .ret R e w:=wp_ret (P:=P) (Q:=QE n R) ⟨e,rfl,h⟩
theorem W.block {id:Nat} {c:Code} (h:W P n c (lG id R) e w):W P n (.block id c) R e w:=
 wp_block (wp_mono h fun ex a w hq=>by
   cases ex with
   | exit lF=>
     obtain ⟨e,he,b⟩:=hq
     unfold lG at b
     unfold Exit.inBlock
     by_cases d:lF=id
     · simp only [d,if_true] at b ⊢;exact ⟨e,he,b⟩
     · simp only [d,if_false] at b ⊢;exact ⟨e,he,b⟩
   | _=>exact hq)
theorem W.cond {c:Operand} {x y:Code} {b:Bool} (hc:ev n e c= .bool b) (h:W P n (if b then x else y) R e w):W P n (.cond c x y) R e w:=
 wp_cond (by rw [iS];exact hc) h
theorem aG {c:Operand} {x y:Code} (hc:ev n e c= .bool true) (h:W P n x R e w):W P n (.cond c x y) R e w:=W.cond hc h
theorem aO {c:Operand} {x y:Code} (hc:ev n e c= .bool false) (h:W P n y R e w):W P n (.cond c x y) R e w:=W.cond hc h
theorem Ex {c:Code} {Q:Exit→Act→World→Prop} {a:Act} {w:World} (i:Nat→Act→World→Prop) (m0:Nat) (j:i m0 a w)
   (round:∀m a w,i m a w→c.wp P (Exit.then (fun f w'=>∃m',m' < m∧i m' f w') Q) a w):(Code.loop c).wp P Q a w:=by
 intro b k cs
 have key:∀m a w,i m a w→∃e f w',Q e f w'∧Arrives P (lone (b.at a (.code c:: .inLoop c::k)) cs w) b k cs e f w':=by
   intro m
   induction m using Nat.strongRecOn with
   | _ m n=>
     intro a w o
     obtain ⟨e,g,h,hq,d⟩:=round m a w o b (.inLoop c::k) cs
     cases e with
     | normal=>
       obtain ⟨m',p,q⟩:=hq
       obtain ⟨r,s,t,u,v⟩:=n m' p g h q
       exact ⟨r,s,t,u,.of_steps (Steps.trans d (.one step_inLoop)) v⟩
     | exit id=>exact ⟨_,g,h,hq,.pass (x:= .inLoop c) rfl (fun _ _=> .inl (by simp)) d⟩
     | goto l=>exact ⟨_,g,h,hq,.pass (x:= .inLoop c) rfl (fun _ _=> .inl (by simp)) d⟩
     | ret=>exact ⟨_,g,h,hq,.pass (x:= .inLoop c) rfl (fun _ _=> .inl (by simp)) d⟩
     | panic ch=>exact ⟨_,g,h,hq,.pass (x:= .inLoop c) rfl (fun _ _=> .inl (by simp)) d⟩
     | outgrown=>exact ⟨_,g,h,hq,.pass (x:= .inLoop c) rfl (fun _ _=> .inl (by simp)) d⟩
 obtain ⟨e,f,w',hq,d⟩:=key _ a w j
 exact ⟨e,f,w',hq,.of_steps (.one step_loop) d⟩
theorem W.loop {c:Code} (d:Nat→Env→World→Prop) (m0:Nat) (f:d m0 e w)
   (round:∀m e w,d m e w→W P n c (ef (fun b w'=>∃m',m' < m∧d m' b w') R) e w):W P n (.loop c) R e w:=by
 refine Ex (fun m a w=>∃e,a=act n e∧d m e w) m0 ⟨e,rfl,f⟩ ?_
 rintro m a w ⟨e,rfl,g⟩
 refine wp_mono (round m e w g) fun x j w' hx=>?_
 cases x <;> first | exact hx | (obtain ⟨b,rfl,m',hm,h⟩:=hx;exact ⟨m',hm,b,rfl,h⟩) | (obtain ⟨b,he,i⟩:=hx;exact ⟨b,he,i⟩)
theorem W.cut {c:Code} {K:Env→World→Prop} (a:Env→World→Prop) (h:W P n c (ef a R) e w) (b:∀e w,a e w→K e w):W P n c (ef K R) e w:=
 h.mono fun x e w hx=>by cases x <;> first | exact b _ _ hx | exact hx
end code
structure It where
 i:Nat
 st:Bool
 o:Oper
 g:Option (Nat×Bool)
def j8 (ops:Array Oper) (o:Oper):Option (Nat×Bool):=
 match o.guard with
 | none=>none
 | some (j,want)=>match (ops.getD j default).dst with
   | some d=>some (d,want)
   | none=>some (1000000,want)
def items (ops:Array Oper) (σ:List (Nat×Bool)):List It:=σ.map fun p=>⟨p.1,p.2,ops.getD p.1 default,j8 ops (ops.getD p.1 default)⟩
def cF (o:Oper) (i:Nat):Bool:=o.after.toList.any fun e=>Region.binds .any e && Nat.beq e.on i
def aI (n:Nat) (e:Env):Option (Nat×Bool)→Bool
 | none=>true
 | some (t,want)=>match ev n e (.tmp t) with
   | .bool b=>b==want
   | _=>false
abbrev aW:=List (Nat×(World→Prop))
def g' (P:Program) (K:Value→World→Prop):Result Next→Prop
 | .ok (.value v) w'=>K v w'
 | .ok .skip w'=>K undef w'
 | .ok (.enter f args) w'=>Calls P f args w' fun e a=>∃v,e= .returned v∧K v a
 | _=>False
def aa (P:Program) (n:Nat) (K:aW→Env→World→Prop):List It→aW→Env→World→Prop
 | [],O,e,w=>K O e w
 | it::l,O,e,w=>
   if aI n e it.g then
     if it.st then∃v,((∀w,(execOp (ev n e) it.o).run P w= .ok (.value v) w)∧aa P n K l O (cv e it.o.dst v) w)∨
       (∃S:World→Prop,S w∧(∀w,S w→(execOp (ev n e) it.o).run P w= .ok (.value v) w)∧aa P n K l ((it.i,S)::O) (cv e it.o.dst v) w)
     else g' P (fun v w'=>((∀p∈O,p.2 w→p.2 w')∧aa P n K l O (cv e it.o.dst v) w')∨(O.all (fun p=>cF it.o p.1)=true∧aa P n K l [] (cv e it.o.dst v) w')∨
         ((∀p∈O,cF it.o p.1=false→p.2 w→p.2 w')∧aa P n K l (O.filter fun p=> !cF it.o p.1) (cv e it.o.dst v) w'))
       ((execOp (ev n e) it.o).run P w)
   else aa P n K l O (cv e it.o.dst undef) w
theorem o3 {P:Program} {K b:Value→World→Prop} (h:∀v w,K v w→b v w) {r:Result Next} (a:g' P K r):g' P b r:=by
 cases r with
 | ok x w=>
   cases x <;> simp only [g'] at a ⊢
   case value v=>exact h _ _ a
   case skip=>exact h _ _ a
   case enter f args=>exact a.mono fun e w' ⟨v,he,hv⟩=>⟨v,he,h _ _ hv⟩
 | halt x w=>simp only [g'] at a
theorem aa.mono {P:Program} {n:Nat} {K f:aW→Env→World→Prop} (h:∀O e w,K O e w→f O e w):∀(l:List It) (O:aW) (e:Env) (w:World),aa P n K l O e w→aa P n f l O e w
 | [],_,_,_,hp=>h _ _ _ hp
 | it::l,O,e,w,hp=>by
   unfold aa at hp ⊢
   split
   · rename_i hw
     rw [if_pos hw] at hp
     split
     · rename_i c
       rw [if_pos c] at hp
       obtain ⟨v,⟨h3,d⟩ | ⟨S,h2,h3,d⟩⟩:=hp
       · exact ⟨v,.inl ⟨h3,aa.mono h l _ _ _ d⟩⟩
       · exact ⟨v,.inr ⟨S,h2,h3,aa.mono h l _ _ _ d⟩⟩
     · rename_i c
       rw [if_neg c] at hp
       exact o3 (fun v w' hk=>hk.imp (fun ⟨a,b⟩=>⟨a,aa.mono h l _ _ _ b⟩) (Or.imp (fun ⟨a,b⟩=>⟨a,aa.mono h l _ _ _ b⟩) (fun ⟨a,b⟩=>⟨a,aa.mono h l _ _ _ b⟩))) hp
   · rename_i hw
     rw [if_neg hw] at hp
     exact aa.mono h l _ _ _ hp
def eA (ops:Array Oper):List (Nat×Bool)→Array Bool→Option (Array Bool)
 | [],listed=>some listed
 | (i,true)::σ,listed=>if (Region.ready .any ops listed).contains i && Region.free .any ops listed i then eA ops σ (listed.setIfInBounds i true) else none
 | (i,false)::σ,listed=>if Region.ready .any ops listed== [i] then eA ops σ (listed.setIfInBounds i true) else none
inductive Tr
 | line (σ:List (Nat×Bool))
 | fork (σ:List (Nat×Bool)) (a b:Tr)
def Tr.fa:Tr→List Nat
 | .line σ=>(σ.head?.map (·.1)).toList
 | .fork σ a b=>match σ with
   | []=>a.fa ++b.fa
   | p::_=> [p.1]
def Tr.depth:Tr→Nat
 | .line σ=>σ.length
 | .fork σ a _=>σ.length+a.depth
def Tr.even:Tr→Bool
 | .line _=>true
 | .fork _ a b=>a.even && b.even && (a.depth==b.depth)
def gU (first:Bool) (σ:List (Nat×Bool)) (l:Array Bool):Option (List (Nat×Bool)×Array Bool):=
 if first then match σ with
   | (i,false)::a=>some (a,l.setIfInBounds i true)
   | _=>none
 else some (σ,l)
def er (ops:Array Oper) (first:Bool):Tr→Array Bool→Bool
 | .line σ,l=>match gU first σ l with
   | some (d,e)=>match eA ops d e with
     | some c=>Region.ready .any ops c== []
     | none=>false
   | none=>false
 | .fork σ a b,l=>
   if first && σ.isEmpty then er ops true a l && er ops true b l
   else match gU first σ l with
     | some (d,e)=>match eA ops d e with
       | some c=> !(Region.ready .any ops c).isEmpty && (Region.ready .any ops c).all (fun j=>(a.fa ++b.fa).contains j) && er ops true a c && er ops true b c
       | none=>false
     | none=>false
def pc (ops:Array Oper) (n:Nat) (t:Tr):Bool:=
 Region.noSelect ops && t.even && (t.depth==ops.size) && Nat.ble n 1000000 && er ops false t (Array.replicate ops.size false)
def dE (P:Program) (n:Nat) (ops:Array Oper) (K:Env→World→Prop):Tr→aW→Env→World→Prop
 | .line σ,O,e,w=>aa P n (fun _ e w=>K e w) (items ops σ) O e w
 | .fork σ a b,O,e,w=>aa P n (fun O e w=>dE P n ops K a O e w∧dE P n ops K b O e w) (items ops σ) O e w
theorem dE.mono {P:Program} {n:Nat} {ops:Array Oper} {K c:Env→World→Prop} (h:∀e w,K e w→c e w):∀(t:Tr) (O:aW) (e:Env) (w:World),dE P n ops K t O e w→dE P n ops c t O e w
 | .line _,_,_,_,hp=>aa.mono (fun _ _ _ hk=>h _ _ hk) _ _ _ _ hp
 | .fork _ a b,_,_,_,hp=>aa.mono (fun _ _ _ hk=>⟨dE.mono h a _ _ _ hk.1,dE.mono h b _ _ _ hk.2⟩) _ _ _ _ hp
section plans
variable {P:Program} {n:Nat} {ops:Array Oper} {Q:Exit→Act→World→Prop}
def eo (P:Program) (ops:Array Oper) (Q:Exit→Act→World→Prop):aW→Nat→Array Bool→Act→World→Prop
 | _,0,listed,a,w=>Region.ready .any ops listed= []∧Q .normal a w
 | O,f+1,listed,a,w=>
   (Region.ready .any ops listed= []→Q .normal a w)∧
   ∀j∈Region.ready .any ops listed,wpOp P ops Q j (fun b w'=>(∀p∈O,cF (ops.getD j default) p.1=false→p.2 w')∧
    eo P ops Q (O.filter fun p=> !cF (ops.getD j default) p.1) f (listed.setIfInBounds j true) b w') a w
theorem tf:∀(f:Nat) (O:aW) (listed:Array Bool) (a:Act) (w:World),eo P ops Q O f listed a w→wpAny P .any ops Q f listed a w
 | 0,_,_,_,_,h=>h
 | f+1,_,_,_,_,h=>⟨h.1,fun j b=>wpOp_mono (fun c w' d=>tf f _ _ c w' d.2) (h.2 j b)⟩
theorem iQ:∀(f:Nat) (O O':aW) (listed:Array Bool) (a:Act) (w:World),(∀p∈O',p∈O∨∀w,p.2 w)→eo P ops Q O f listed a w→eo P ops Q O' f listed a w
 | 0,_,_,_,_,_,_,h=>h
 | f+1,O,O',listed,a,w,hs,h=>⟨h.1,fun j c=>wpOp_mono (fun d w' b=>⟨fun p hp hw=>(hs p hp).elim (fun h=>b.1 p h hw) (fun h=>h w'),
    iQ f _ _ _ _ _ (fun p hp=>by simp only [List.mem_filter] at *;exact (hs p hp.1).imp (fun h=>⟨h,hp.2⟩) id) b.2⟩) (h.2 j c)⟩
theorem ko {i:Nat} {o:Oper} (h:ops[i]? =some o):ops.getD i default=o:=by
 rw [Array.getD_eq_getD_getElem?,h];rfl
theorem qP {i:Nat} {l:Oper} {v:Value} {S:World→Prop} (hi:ops[i]? =some l) (u:∀(j:Nat) (o:Oper) cs b,ops[j]? =some o→o.op≠ .select cs b)
   (F:∀c a w,Q (.panic c) (a.put l.dst v) w→Q (.panic c) a w):
   ∀(f:Nat) (O:aW) (listed:Array Bool) (a:Act) (w:World),(∀p∈O,p.2 w)→
    (∀j d,ops[j]? =some d→j≠i→listed.getD j true=false→(∀e∈d.after,Region.binds .any e=true→e.on≠i)→l.apart ops d=true)→
    i∈Region.ready .any ops listed→YieldsIf P ops S l v a→S w→
    eo P ops Q ((i,S)::O) f (listed.setIfInBounds i true) (a.put l.dst v) w→eo P ops Q O (f+1) listed a w:=by
 intro f
 induction f with
 | zero=>
   intro O listed a w hO _ m hy r H
   refine ⟨fun h=>(by rw [h] at m;cases m),fun j n=>?_⟩
   by_cases g:j=i
   · subst g
     exact hy.wpOp hi r ⟨fun p hp _=>hO p hp,H⟩
   · have:=ready_mono n g
     rw [H.1] at this
     cases this
 | succ f G=>
   intro O listed a w hO x m hy r H
   refine ⟨fun h=>(by rw [h] at m;cases m),fun j n=>?_⟩
   by_cases g:j=i
   · subst g
     exact hy.wpOp hi r ⟨fun p hp _=>hO p hp,iQ _ _ _ _ _ _ (fun p hp=> .inl (List.mem_cons_of_mem _ (List.mem_filter.1 hp).1)) H⟩
   · have h1:=H.2 j (ready_mono n g)
     obtain ⟨y,d,q,I⟩:=mem_ready.1 n
     have z:∀e∈d.after,Region.binds .any e=true→e.on≠i:=fun e he hb heq=>by
       have h1:=I e he hb
       have A:=(mem_ready.1 m).1
       rw [heq] at h1
       rcases Nat.lt_or_ge i listed.size with s | s
       · simp [s] at A h1;rw [A] at h1;cases h1
       · simp [Array.getElem?_eq_none s] at h1
     have B:cF (ops.getD j default) i=false:=by
       rw [ko q]
       unfold cF
       cases hb:d.after.toList.any (fun e=>Region.binds .any e && Nat.beq e.on i) with
       | false=>rfl
       | true=>
         obtain ⟨e,he,hb⟩:=List.any_eq_true.1 hb
         simp only [Bool.and_eq_true] at hb
         exact absurd (Nat.eq_of_beq_eq_true hb.2) (z e (by simpa using he) hb.1)
     have h2:=wpOp_putIf q (x j d q g y z) (fun cs b=>u i l cs b hi) (fun cs b=>u j d cs b q) F hy h1
     have J:∀k ok,ops[k]? =some ok→k≠i→(listed.setIfInBounds j true).getD k true=false→
         (∀e∈ok.after,Region.binds .any e=true→e.on≠i)→l.apart ops ok=true:=fun k ok hk K C L=>by
       refine x k ok hk K ?_ L
       by_cases D:j=k
       · subst D;exact y
       · rw [getD_set_ne true D] at C;exact C
     refine wpOp_mono (fun M w' h3=>?_) h2
     obtain ⟨N,t,E⟩:=h3
     have R:S w':=t (i,S) List.mem_cons_self B
     refine ⟨fun p hp hw=>t p (List.mem_cons_of_mem _ hp) hw,?_⟩
     refine G _ (listed.setIfInBounds j true) M w' ?_ J (ready_mono m (Ne.symm g)) N R ?_
     · intro p hp
       simp only [List.mem_filter,Bool.not_eq_true'] at hp
       exact t p (List.mem_cons_of_mem _ hp.1) hp.2
     · rw [Array.setIfInBounds_comm _ _ g]
       have T:((i,S)::O).filter (fun p=> !cF (ops.getD j default) p.1)=(i,S)::O.filter (fun p=> !cF (ops.getD j default) p.1):=by
         rw [List.filter_cons,if_pos (by show (!cF (ops.getD j default) i)=true;rw [B];rfl)]
       rw [T] at E
       exact E
theorem r6 (e:Env) {o:Oper} (f:n≤1000000):aI n e (j8 ops o)=Region.wanted o (yielded ops (act n e).tmps):=by
 unfold j8 Region.wanted aI yielded
 cases hg:o.guard with
 | none=>rfl
 | some b=>
   obtain ⟨j,want⟩:=b
   simp only
   rw [Array.getD_eq_getD_getElem?]
   have a:ev n e (.tmp 1000000)=undef:=by rw [ui,if_neg (by omega)]
   cases ho:ops[j]? with
   | none=>
     have h1:((default:Oper).dst)=none:=rfl
     simp only [Option.getD_none,h1,Option.bind_none,a]
     rfl
   | some c=>
     simp only [Option.getD_some,Option.bind_some]
     cases g:c.dst with
     | none=>
       simp only [a,Option.bind_none];rfl
     | some d=>
       simp only [Option.bind_some,uK,ui]
       by_cases h:d < n
       · simp only [h,if_true]
         cases hv:e d <;> simp
       · simp only [h,if_false]
         rfl
theorem tl {o:Oper} {e:Env} {w:World} {K:Value→World→Prop} {a:Act→World→Prop} (hK:∀v w',K v w'→a (act n (cv e o.dst v)) w')
   (h:g' P K ((execOp (ev n e) o).run P w)):o.wp P (act n e) w a Q:=by
 unfold Oper.wp
 rw [iS]
 generalize (execOp (ev n e) o).run P w=r at*
 cases r with
 | ok x w'=>
   cases x <;> simp only [g'] at h <;> simp only [Oper.upon]
   case value v=>rw [hj];exact hK _ _ h
   case skip=>rw [hj];exact hK _ _ h
   case enter f args=>
     refine h.mono fun x b hx=>?_
     obtain ⟨v,rfl,hv⟩:=hx
     simp only
     rw [hj];exact hK _ _ hv
 | halt x w'=>simp only [g'] at h
theorem qv (k:n≤1000000) {K:aW→Env→World→Prop} {f i:Nat} {σ:List (Nat×Bool)} {O:aW} {listed:Array Bool} {e:Env} {w:World} (l:i∈Region.ready .any ops listed) (hO:∀p∈O,p.2 w)
   (b:∀(O:aW) (e:Env) (w:World),(∀p∈O,p.2 w)→aa P n K (items ops σ) O e w→eo P ops Q O f (listed.setIfInBounds i true) (act n e) w)
   (h:aa P n K (items ops ((i,false)::σ)) O e w):
   wpOp P ops Q i (fun m w'=>(∀p∈O,cF (ops.getD i default) p.1=false→p.2 w')∧eo P ops Q (O.filter fun p=> !cF (ops.getD i default) p.1) f (listed.setIfInBounds i true) m w') (act n e) w:=by
 obtain ⟨_,o,c,_⟩:=mem_ready.1 l
 have q:items ops ((i,false)::σ)=⟨i,false,ops.getD i default,j8 ops (ops.getD i default)⟩::items ops σ:=rfl
 rw [q,ko c] at h
 unfold aa at h
 rw [r6 e k] at h
 unfold wpOp
 simp only [c]
 by_cases hw:Region.wanted o (yielded ops (act n e).tmps)=true
 · rw [if_pos hw] at h
   simp only [hw,if_true]
   simp only [Bool.false_eq_true,if_false] at h
   refine .inl (tl (fun v w' hk=>?_) h)
   rw [ko c]
   rcases hk with ⟨hb,a⟩ | ⟨d,a⟩ | ⟨hb,a⟩
   · have j:∀p∈O,p.2 w':=fun p hp=>hb p hp (hO p hp)
     exact ⟨fun p hp _=>j p hp,iQ _ _ _ _ _ _ (fun p hp=> .inl (List.mem_filter.1 hp).1) (b _ _ _ j a)⟩
   · rw [List.all_eq_true] at d
     refine ⟨fun p hp g=>absurd (d p hp) (by rw [g];exact Bool.false_ne_true),iQ _ _ _ _ _ _ (fun p hp=>?_) (b [] _ _ (fun p hp=>by cases hp) a)⟩
     simp only [List.mem_filter,Bool.not_eq_true'] at hp
     rw [d p hp.1] at hp
     cases hp.2
   · refine ⟨fun p hp g=>hb p hp g (hO p hp),b _ _ _ (fun p hp=>?_) a⟩
     simp only [List.mem_filter,Bool.not_eq_true'] at hp
     exact hb p hp.1 hp.2 (hO p hp.1)
 · rw [if_neg hw] at h
   simp only [hw,Bool.false_eq_true,if_false]
   rw [hj,ko c]
   exact ⟨fun p hp _=>hO p hp,iQ _ _ _ _ _ _ (fun p hp=> .inl (List.mem_filter.1 hp).1) (b _ _ _ hO h)⟩
theorem gA (l:n≤1000000) (hs:Region.noSelect ops=true) (d:∀c a w,¬Q (.panic c) a w) {K:aW→Env→World→Prop} {f:Nat} {s:Array Bool}
   (hK:∀(O:aW) (e:Env) (w:World),(∀p∈O,p.2 w)→K O e w→eo P ops Q O f s (act n e) w):
   ∀(σ:List (Nat×Bool)) (O:aW) (listed:Array Bool) (e:Env) (w:World),eA ops σ listed=some s→(∀p∈O,p.2 w)→
    aa P n K (items ops σ) O e w→eo P ops Q O (σ.length+f) listed (act n e) w
 | [],O,listed,e,w,b,hO,h=>by
   simp only [eA,Option.some.injEq] at b
   subst b
   rw [List.length_nil,Nat.zero_add]
   exact hK O e w hO h
 | (i,true)::σ,O,listed,e,w,b,hO,h=>by
   simp only [eA] at b
   split at b
   · rename_i t
     simp only [Bool.and_eq_true] at t
     obtain ⟨g,hf⟩:=t
     have o:=b
     have m:i∈Region.ready .any ops listed:=by simpa using g
     obtain ⟨_,y,k,_⟩:=mem_ready.1 m
     have z:items ops ((i,true)::σ)=⟨i,true,ops.getD i default,j8 ops (ops.getD i default)⟩::items ops σ:=rfl
     rw [z,ko k] at h
     unfold aa at h
     rw [r6 e l] at h
     rw [List.length_cons,Nat.add_right_comm]
     by_cases hw:Region.wanted y (yielded ops (act n e).tmps)=true
     · rw [if_pos hw] at h
       simp only [if_true] at h
       obtain ⟨v,⟨q,r⟩ | ⟨S,u,q,r⟩⟩:=h
       · refine qP k (Region.noSelect_spec hs) (fun c a w hq=>absurd hq (d _ _ _)) (σ.length+f) O listed (act n e) w (fun p hp=>hO p hp) (Region.free_spec k hf) m
           (v:=v) (S:=fun _=>True) (.inl ⟨hw,fun w' _=>by rw [iS];exact q w'⟩) trivial ?_
         rw [hj]
         exact iQ _ O _ _ _ _ (fun p hp=>by
           rcases List.mem_cons.1 hp with rfl | hp
           · exact .inr fun _=>trivial
           · exact .inl hp) (gA l hs d hK σ _ _ _ _ o hO r)
       · refine qP k (Region.noSelect_spec hs) (fun c a w hq=>absurd hq (d _ _ _)) (σ.length+f) O listed (act n e) w (fun p hp=>hO p hp) (Region.free_spec k hf) m
           (v:=v) (S:=S) (.inl ⟨hw,fun w' A=>by rw [iS];exact q w' A⟩) u ?_
         rw [hj]
         exact gA l hs d hK σ _ _ _ _ o (fun p hp=>by
           rcases List.mem_cons.1 hp with rfl | hp
           · exact u
           · exact hO p hp) r
     · rw [if_neg hw] at h
       refine qP k (Region.noSelect_spec hs) (fun c a w hq=>absurd hq (d _ _ _)) (σ.length+f) O listed (act n e) w (fun p hp=>hO p hp) (Region.free_spec k hf) m
         (v:=undef) (S:=fun _=>True) (.inr ⟨by simpa using hw,rfl⟩) trivial ?_
       rw [hj]
       exact iQ _ O _ _ _ _ (fun p hp=>by
         rcases List.mem_cons.1 hp with rfl | hp
         · exact .inr fun _=>trivial
         · exact .inl hp) (gA l hs d hK σ _ _ _ _ o hO h)
   · cases b
 | (i,false)::σ,O,listed,e,w,b,hO,h=>by
   simp only [eA] at b
   split at b
   · rename_i g
     rw [beq_iff_eq] at g
     rw [List.length_cons,Nat.add_right_comm]
     refine ⟨fun B=>(by rw [B] at g;cases g),fun j x=>?_⟩
     rw [g] at x
     obtain rfl:j=i:=by simpa using x
     exact qv l (by rw [g];simp) hO (fun O e w hO h=>gA l hs d hK σ O _ e w b hO h) h
   · cases b
theorem vB {K:Env→World→Prop} {a b:Tr} {c:Array Bool} (m:a.depth=b.depth)
   (i:(Region.ready .any ops c).isEmpty=false) (k:(Region.ready .any ops c).all (fun j=>(a.fa ++b.fa).contains j)=true)
   (ha:∀(O:aW) (e:Env) (w:World) (j f:Nat),(∀p∈O,p.2 w)→dE P n ops K a O e w→j∈a.fa→j∈Region.ready .any ops c→a.depth=f+1→
     wpOp P ops Q j (fun d w'=>(∀p∈O,cF (ops.getD j default) p.1=false→p.2 w')∧eo P ops Q (O.filter fun p=> !cF (ops.getD j default) p.1) f (c.setIfInBounds j true) d w') (act n e) w)
   (hb:∀(O:aW) (e:Env) (w:World) (j f:Nat),(∀p∈O,p.2 w)→dE P n ops K b O e w→j∈b.fa→j∈Region.ready .any ops c→b.depth=f+1→
     wpOp P ops Q j (fun d w'=>(∀p∈O,cF (ops.getD j default) p.1=false→p.2 w')∧eo P ops Q (O.filter fun p=> !cF (ops.getD j default) p.1) f (c.setIfInBounds j true) d w') (act n e) w)
   (o:0 < a.depth) (O:aW) (e:Env) (w:World) (hO:∀p∈O,p.2 w) (h:dE P n ops K a O e w∧dE P n ops K b O e w):eo P ops Q O a.depth c (act n e) w:=by
 obtain ⟨f,hf⟩:∃f,a.depth=f+1:=⟨a.depth - 1,by omega⟩
 rw [hf]
 refine ⟨fun l=>(by rw [l] at i;cases i),fun j g=>?_⟩
 have h1:=List.all_eq_true.1 k j g
 have h2:j∈a.fa ++b.fa:=by simpa using h1
 rcases List.mem_append.1 h2 with h3 | h3
 · exact ha O e w j f hO h.1 h3 g hf
 · exact hb O e w j f hO h.2 h3 g (by omega)
theorem tw:∀(t:Tr) (l:Array Bool),er ops true t l=true→0 < t.depth
 | .line σ,l,h=>by
   cases σ with
   | nil=>simp [er,gU] at h
   | cons p σ=>simp [Tr.depth]
 | .fork σ a b,l,h=>by
   cases σ with
   | nil=>
     simp only [er,List.isEmpty_nil,Bool.and_self,if_true,Bool.and_eq_true] at h
     have:=tw a l h.1
     simp [Tr.depth];exact this
   | cons p σ=>simp [Tr.depth];omega
theorem j' (k:n≤1000000) (hs:Region.noSelect ops=true) (m:∀c a w,¬Q (.panic c) a w):
   ∀(t:Tr) (l:Array Bool),t.even=true→er ops true t l=true→∀(O:aW) (e:Env) (w:World) (j f:Nat),(∀p∈O,p.2 w)→dE P n ops (fun e w=>Q .normal (act n e) w) t O e w→j∈t.fa→j∈Region.ready .any ops l→t.depth=f+1→
    wpOp P ops Q j (fun z w'=>(∀p∈O,cF (ops.getD j default) p.1=false→p.2 w')∧eo P ops Q (O.filter fun p=> !cF (ops.getD j default) p.1) f (l.setIfInBounds j true) z w') (act n e) w
 | .line σ,l,_,hg,O,e,w,j,f,hO,h,d,o,g=>by
   match σ,hg,h,d,g with
   | [],hg,_,_,_=>simp [er,gU] at hg
   | (i,true)::σ,hg,_,_,_=>simp [er,gU] at hg
   | (i,false)::σ,hg,h,d,g=>
     obtain rfl:j=i:=by simpa [Tr.fa] using d
     simp only [er,gU,if_true] at hg
     split at hg
     · rename_i q hp
       rw [beq_iff_eq] at hg
       have r:f=σ.length+0:=by simp [Tr.depth] at g;omega
       subst r
       exact qv k o hO (fun O e w hO h=>gA k hs m (f:=0) (fun O e w _ hk=>⟨hg,hk⟩) σ O _ e w hp hO h) h
     · cases hg
 | .fork σ a b,l,u,hg,O,e,w,j,f,hO,h,d,o,g=>by
   simp only [Tr.even,Bool.and_eq_true,beq_iff_eq] at u
   obtain ⟨⟨v,x⟩,A⟩:=u
   match σ,hg,h,d,g with
   | [],hg,h,d,g=>
     simp only [er,List.isEmpty_nil,Bool.and_self,if_true,Bool.and_eq_true] at hg
     have B:a.depth=f+1:=by simpa [Tr.depth] using g
     rcases List.mem_append.1 (show j∈a.fa ++b.fa from d) with h3 | h3
     · exact j' k hs m a l v hg.1 O e w j f hO h.1 h3 o B
     · exact j' k hs m b l x hg.2 O e w j f hO h.2 h3 o (by omega)
   | (i,true)::σ,hg,_,_,_=>simp [er,gU] at hg
   | (i,false)::σ,hg,h,d,g=>
     obtain rfl:j=i:=by simpa [Tr.fa] using d
     simp only [er,gU,if_true,List.isEmpty_cons,Bool.and_false,Bool.false_eq_true,if_false] at hg
     split at hg
     · rename_i q hp
       simp only [Bool.and_eq_true,Bool.not_eq_true'] at hg
       obtain ⟨⟨⟨C,D⟩,y⟩,E⟩:=hg
       have r:f=σ.length+a.depth:=by simp [Tr.depth] at g;omega
       subst r
       exact qv k o hO (fun O e w hO h=>gA k hs m (fun O e w hO hk=>vB A C D (fun O e w j f hO h1 h2 h3 s=>j' k hs m a q v y O e w j f hO h1 h2 h3 s) (fun O e w j f hO h1 h2 h3 s=>j' k hs m b q x E O e w j f hO h1 h2 h3 s) (tw a q y) O e w hO hk) σ O _ e w hp hO h) h
     · cases hg
theorem E5 (d:n≤1000000) (hs:Region.noSelect ops=true) (g:∀c a w,¬Q (.panic c) a w):
   ∀(t:Tr) (l:Array Bool),t.even=true→er ops false t l=true→∀(O:aW) (e:Env) (w:World),(∀p∈O,p.2 w)→dE P n ops (fun e w=>Q .normal (act n e) w) t O e w→eo P ops Q O t.depth l (act n e) w
 | .line σ,l,_,hg,O,e,w,hO,h=>by
   simp only [er,gU,Bool.false_eq_true,if_false] at hg
   split at hg
   · rename_i i hp
     rw [beq_iff_eq] at hg
     exact gA d hs g (f:=0) (fun O e w _ hk=>⟨hg,hk⟩) σ O _ e w hp hO h
   · cases hg
 | .fork σ a b,l,m,hg,O,e,w,hO,h=>by
   simp only [Tr.even,Bool.and_eq_true,beq_iff_eq] at m
   obtain ⟨⟨q,r⟩,s⟩:=m
   simp only [er,gU,Bool.false_and,Bool.false_eq_true,if_false] at hg
   split at hg
   · rename_i i hp
     simp only [Bool.and_eq_true,Bool.not_eq_true'] at hg
     obtain ⟨⟨⟨u,v⟩,o⟩,x⟩:=hg
     exact gA d hs g (fun O e w hO hk=>vB s u v (fun O e w j f hO h1 h2 h3 k=>j' d hs g a i q o O e w j f hO h1 h2 h3 k) (fun O e w j f hO h1 h2 h3 k=>j' d hs g b i r x O e w j f hO h1 h2 h3 k) (tw a i o) O e w hO hk) σ O _ e w hp hO h
   · cases hg
theorem jZ (c:n≤1000000):∀(σ:List (Nat×Bool)) (O:aW) (e:Env) (w:World),(∀p∈σ,(ops[p.1]?).isSome=true)→
     aa P n (fun _ e w=>Q .normal (act n e) w) (items ops σ) O e w→wpOps P ops Q (σ.map (·.1)) (act n e) w
 | [],_,_,_,_,h=>h
 | (i,b)::σ,O,e,w,g,h=>by
   obtain ⟨j,k⟩:=Option.isSome_iff_exists.1 (g _ List.mem_cons_self)
   have d:∀p∈σ,(ops[p.1]?).isSome=true:=fun p hp=>g p (List.mem_cons_of_mem _ hp)
   have l:items ops ((i,b)::σ)=⟨i,b,ops.getD i default,j8 ops (ops.getD i default)⟩::items ops σ:=rfl
   rw [l,ko k] at h
   unfold aa at h
   rw [r6 e c] at h
   simp only [List.map_cons,wpOps]
   rw [show ops[i]? =some j from k]
   by_cases hw:Region.wanted j (yielded ops (act n e).tmps)=true
   · rw [if_pos hw] at h
     simp only [hw,if_true]
     refine .inl ?_
     cases b with
     | true=>
       simp only [if_true] at h
       obtain ⟨v,⟨f,a⟩ | ⟨S,m,f,a⟩⟩:=h
       · unfold Oper.wp
         rw [iS,f w]
         simp only [Oper.upon]
         rw [hj]
         exact jZ c σ _ _ _ d a
       · unfold Oper.wp
         rw [iS,f w m]
         simp only [Oper.upon]
         rw [hj]
         exact jZ c σ _ _ _ d a
     | false=>
       simp only [Bool.false_eq_true,if_false] at h
       exact tl (fun v w' hk=>by
         rcases hk with ⟨_,a⟩ | ⟨_,a⟩ | ⟨_,a⟩
         · exact jZ c σ _ _ _ d a
         · exact jZ c σ _ _ _ d a
         · exact jZ c σ _ _ _ d a) h
   · rw [if_neg hw] at h
     simp only [hw,Bool.false_eq_true,if_false]
     rw [hj]
     exact jZ c σ _ _ _ d h
end plans
def qW (ops:Array Oper) (n:Nat) (σ:List (Nat×Bool)):Bool:=
 Nat.ble n 1000000 && (σ.map (·.1)==List.range ops.size)
section regions
variable {P:Program} {n:Nat} {R:Exit→Env→World→Prop} {e:Env} {w:World}
theorem mI {id:Nat} {ops:Array Oper} (hm:P.follows .mixedOrders=true) (t:Tr) (b:pc ops n t=true)
   (h:dE P n ops (fun e w=>R .normal e w) t [] e w.drew):W P n (.region id ops true) R e w:=by
 simp only [pc,Bool.and_eq_true,beq_iff_eq] at b
 obtain ⟨⟨⟨⟨hs,d⟩,hl⟩,f⟩,hp⟩:=b
 refine wp_region_any hm (tf _ [] _ _ _ ?_)
 rw [← hl]
 rw [← hl] at hp
 refine E5 (by simpa using f) hs (fun c a w hq=>hq) t _ d hp [] e _ (fun p hp=>by cases hp) ?_
 have:({ w with drawn:=w.drawn+1 }:World)=w.drew:=rfl
 rw [this]
 revert h
 generalize w.drew=g
 intro h
 exact dE.mono (fun e w i=>⟨e,rfl,i⟩) t [] e g h
theorem Ba {id:Nat} {ops:Array Oper} (hm:P.follows .mixedOrders=true) (σ:List (Nat×Bool)) (a:pc ops n (.line σ)=true)
   (h:aa P n (fun _ e w=>R .normal e w) (items ops σ) [] e w.drew):W P n (.region id ops true) R e w:=mI hm (.line σ) a h
theorem B6 {id:Nat} {ops:Array Oper} (σ:List (Nat×Bool)) (a:qW ops n σ=true)
   (h:aa P n (fun _ e w=>R .normal e w) (items ops σ) [] e w):W P n (.region id ops false) R e w:=by
 simp only [qW,Bool.and_eq_true,beq_iff_eq] at a
 obtain ⟨b,hl⟩:=a
 refine wp_region ?_
 rw [← hl]
 refine jZ (by simpa using b) σ [] e w (fun p hp=>?_) (aa.mono (fun _ e w c=>⟨e,rfl,c⟩) _ _ _ _ h)
 have:p.1∈List.range ops.size:=hl ▸ List.mem_map_of_mem hp
 have:=List.mem_range.1 this
 simp [this]
end regions
end Go.LW
namespace Go.LW
set_option linter.unusedSimpArgs false
set_option linter.unusedVariables false
set_option linter.unusedSectionVars false
open Go Go.RowKit
@[reducible] def VN (m:Nat):Value:= .int .i64 (m:Int)
@[reducible] def VU (k:IntKind) {n:Nat} (X:BitVec n):Value:= .int k (X.toNat:Int)
inductive UK:IntKind→Nat→Prop
 | u8:UK .u8 8
 | u16:UK .u16 16
 | u32:UK .u32 32
 | u64:UK .u64 64
theorem UK.wrap {k:IntKind} {n:Nat} (h:UK k n) (x:Int):k.wrap x=x % (2 ^ n:Nat):=by
 cases h <;> simp [IntKind.wrap,IntKind.signed,IntKind.bits]
theorem UK.bits {k:IntKind} {n:Nat} (h:UK k n):k.bits=n:=by cases h <;> rfl
theorem UK.A7 {k:IntKind} {n:Nat} (h:UK k n):k.signed=false:=by cases h <;> rfl
theorem UK.max {k:IntKind} {n:Nat} (h:UK k n):k.max=2 ^ n - 1:=by cases h <;> rfl
theorem UK.back {k:IntKind} {n:Nat} (h:UK k n) (Z:BitVec k.bits):k.wrap (Z.toNat:Int)=(Z.toNat:Int):=by
 have h1:=Z.isLt
 have h2:((Z.toNat % 2 ^ n:Nat):Int)=(Z.toNat:Int):=by
   have h3:Z.toNat < 2 ^ n:=by cases h <;> exact h1
   rw [Nat.mod_eq_of_lt h3]
 rw [h.wrap,← Int.natCast_emod];exact h2
theorem fK (n:Int) (h: -9223372036854775808≤n∧n≤9223372036854775807):IntKind.i64.wrap n=n:=IntWalk.i64_in n h
theorem b8 {P:Program} {s:Sem Value} {w w':World} {v:Value} (h:s.run P w= .ok v w'):(do pure (Next.value (← s)):Sem Next).run P w= .ok (.value v) w':=by
 rw [Sem.run_bind,h];rfl
theorem pJ {P:Program} {s:Sem Unit} {w w':World} (h:s.run P w= .ok () w'):(do s;pure Next.skip:Sem Next).run P w= .ok .skip w':=by
 rw [Sem.run_bind,h];rfl
theorem hU {P:Program} {op:BinOp} {ρ:Operand→Value} {t yt ty:TypeId} {x y:Operand} {d:Option Tmp} {pos:String} {aft:Array Edge} {gd:Option (Nat×Bool)} {k:IntKind} {a b:Int} {v:Value} {w:World}
   (hx:ρ x= .int k a) (hy:ρ y= .int k b) (h:(binOp op t (.int k a) (.int k b)).run P w= .ok v w):(execOp ρ ⟨d,.binOp op t x y yt,ty,pos,aft,gd⟩).run P w= .ok (.value v) w:=by
 refine b8 ?_
 rw [hx,hy]
 have hq:(eqGuard op t x y (.int k a) (.int k b)).run P w= .ok () w:=by
   unfold eqGuard;cases op <;> rfl
 rw [Sem.run_bind,hq]
 exact h
section step
variable {P:Program} {n:Nat} {K:aW→Env→World→Prop} {l:List It} {O:aW} {e:Env} {w:World} {i ty:Nat} {d:Tmp} {pos:String} {aft:Array Edge} {gd g:Option (Nat×Bool)}
theorem aa.val {op:Op} {v:Value} (hg:aI n e g=true) (hv:∀w,(execOp (ev n e) ⟨some d,op,ty,pos,aft,gd⟩).run P w= .ok (.value v) w)
   (h:aa P n K l O (an e d v) w):aa P n K (⟨i,true,⟨some d,op,ty,pos,aft,gd⟩,g⟩::l) O e w:=by
 unfold aa
 rw [if_pos hg]
 exact ⟨v,.inl ⟨hv,h⟩⟩
theorem al {st:Bool} {op:Op} (hg:aI n e g=false) (h:aa P n K l O (an e d undef) w):aa P n K (⟨i,st,⟨some d,op,ty,pos,aft,gd⟩,g⟩::l) O e w:=by
 unfold aa
 rw [if_neg (by rw [hg];exact Bool.false_ne_true)]
 exact h
theorem aa.nil (h:K O e w):aa P n K [] O e w:=h
theorem dd {ops:Array Oper} {K:Env→World→Prop} {σ:List (Nat×Bool)} (h:aa P n (fun _ e w=>K e w) (items ops σ) O e w):dE P n ops K (.line σ) O e w:=h
theorem dJ {ops:Array Oper} {K:Env→World→Prop} {σ:List (Nat×Bool)} {a b:Tr} (h:aa P n (fun O e w=>dE P n ops K a O e w∧dE P n ops K b O e w) (items ops σ) O e w):dE P n ops K (.fork σ a b) O e w:=h
theorem dK {ops:Array Oper} {K:Env→World→Prop} {a b:Tr} (h1:dE P n ops K a O e w) (h2:dE P n ops K b O e w):aa P n (fun O e w=>dE P n ops K a O e w∧dE P n ops K b O e w) [] O e w:=⟨h1,h2⟩
theorem aa.move {x:Operand} {v:Value} (hg:aI n e g=true) (hx:ev n e x=v) (h:aa P n K l O (an e d v) w):aa P n K (⟨i,true,⟨some d,.move x,ty,pos,aft,gd⟩,g⟩::l) O e w:=
 aa.val hg (fun w=>by simp [execOp,hx,pure]) h
theorem aa.assign {x:Operand} {v:Value} (hg:aI n e g=true) (hx:ev n e x=v) (h:aa P n K l O (an e d v) w):aa P n K (⟨i,true,⟨some d,.assign x,ty,pos,aft,gd⟩,g⟩::l) O e w:=
 aa.val hg (fun w=>by simp [execOp,hx,pure]) h
theorem aj {x:Operand} {k:IntKind} {a:Int} (hg:aI n e g=true) (hx:ev n e x= .int k a) (h:aa P n K l O (an e d (.int k a)) w):aa P n K (⟨i,true,⟨some d,.move x,ty,pos,aft,gd⟩,g⟩::l) O e w:=aa.move hg hx h
theorem ak {x:Operand} {k:IntKind} {a:Int} (hg:aI n e g=true) (hx:ev n e x= .int k a) (h:aa P n K l O (an e d (.int k a)) w):aa P n K (⟨i,true,⟨some d,.assign x,ty,pos,aft,gd⟩,g⟩::l) O e w:=aa.assign hg hx h
theorem a_ {x:Operand} {b:Bool} (hg:aI n e g=true) (hx:ev n e x= .bool b) (h:aa P n K l O (an e d (.bool b)) w):aa P n K (⟨i,true,⟨some d,.move x,ty,pos,aft,gd⟩,g⟩::l) O e w:=aa.move hg hx h
theorem a8 {x:Operand} {b:Bool} (hg:aI n e g=true) (hx:ev n e x= .bool b) (h:aa P n K l O (an e d (.bool b)) w):aa P n K (⟨i,true,⟨some d,.assign x,ty,pos,aft,gd⟩,g⟩::l) O e w:=aa.assign hg hx h
theorem aD {x:Operand} {p:Option Addr} (hg:aI n e g=true) (hx:ev n e x= .pointer p) (h:aa P n K l O (an e d (.pointer p)) w):aa P n K (⟨i,true,⟨some d,.move x,ty,pos,aft,gd⟩,g⟩::l) O e w:=aa.move hg hx h
theorem cA {x:Operand} {p:Option Addr} (hg:aI n e g=true) (hx:ev n e x= .pointer p) (h:aa P n K l O (an e d (.pointer p)) w):aa P n K (⟨i,true,⟨some d,.assign x,ty,pos,aft,gd⟩,g⟩::l) O e w:=aa.assign hg hx h
theorem aE {x:Operand} {p:Option Addr} {a c:Nat} (hg:aI n e g=true) (hx:ev n e x= .slice p a c) (h:aa P n K l O (an e d (.slice p a c)) w):aa P n K (⟨i,true,⟨some d,.move x,ty,pos,aft,gd⟩,g⟩::l) O e w:=aa.move hg hx h
theorem aV {x:Operand} {p:Option Addr} {a c:Nat} (hg:aI n e g=true) (hx:ev n e x= .slice p a c) (h:aa P n K l O (an e d (.slice p a c)) w):aa P n K (⟨i,true,⟨some d,.assign x,ty,pos,aft,gd⟩,g⟩::l) O e w:=aa.assign hg hx h
theorem bK {x:Operand} {s:Array Value} (hg:aI n e g=true) (hx:ev n e x= .tuple s) (h:aa P n K l O (an e d (.tuple s)) w):aa P n K (⟨i,true,⟨some d,.move x,ty,pos,aft,gd⟩,g⟩::l) O e w:=aa.move hg hx h
theorem hG {op:BinOp} {t yt:TypeId} {x y:Operand} {k:IntKind} {a b r:Int} (hg:aI n e g=true) (hx:ev n e x= .int k a) (hy:ev n e y= .int k b)
   (c:(match op with | .add=>k.wrap (a+b) | .sub=>k.wrap (a - b) | .mul=>k.wrap (a*b) | _=>r+1)=r)
   (h:aa P n K l O (an e d (.int k r)) w):aa P n K (⟨i,true,⟨some d,.binOp op t x y yt,ty,pos,aft,gd⟩,g⟩::l) O e w:=
 aa.val hg (fun w=>by
   cases op <;> first | (exfalso;simp only at c;omega) | (simp only at c;subst c;exact hU hx hy (by simp [binOp,Op.intArith,pure,Sem.run]))) h
theorem bu {t yt:TypeId} {x y:Operand} {a b:Nat} (hg:aI n e g=true) (hx:ev n e x=VN a) (hy:ev n e y=VN b) (hb:a+b < 9223372036854775808)
   (h:aa P n K l O (an e d (VN (a+b))) w):aa P n K (⟨i,true,⟨some d,.binOp .add t x y yt,ty,pos,aft,gd⟩,g⟩::l) O e w:=
 hG hg hx hy (by show _=((a+b:Nat):Int);simp only;rw [fK _ (by omega)];omega) h
theorem jx {t yt:TypeId} {x y:Operand} {a b:Nat} (hg:aI n e g=true) (hx:ev n e x=VN a) (hy:ev n e y=VN b) (hb:b≤a∧a < 9223372036854775808)
   (h:aa P n K l O (an e d (VN (a - b))) w):aa P n K (⟨i,true,⟨some d,.binOp .sub t x y yt,ty,pos,aft,gd⟩,g⟩::l) O e w:=
 hG hg hx hy (by show _=((a - b:Nat):Int);simp only;rw [fK _ (by omega)];omega) h
theorem fr {t yt:TypeId} {x y:Operand} {a b:Nat} (hg:aI n e g=true) (hx:ev n e x=VN a) (hy:ev n e y=VN b) (hb:a*b < 9223372036854775808)
   (h:aa P n K l O (an e d (VN (a*b))) w):aa P n K (⟨i,true,⟨some d,.binOp .mul t x y yt,ty,pos,aft,gd⟩,g⟩::l) O e w:=
 hG hg hx hy (by show _=((a*b:Nat):Int);simp only;rw [fK _ (by rw [← Int.natCast_mul];omega)];rw [Int.natCast_mul]) h
theorem iF {t yt:TypeId} {x y:Operand} {a b:Int} (hg:aI n e g=true) (hx:ev n e x= .int .i64 a) (hy:ev n e y= .int .i64 b) (hb: -9223372036854775808≤a+b∧a+b≤9223372036854775807)
   (h:aa P n K l O (an e d (.int .i64 (a+b))) w):aa P n K (⟨i,true,⟨some d,.binOp .add t x y yt,ty,pos,aft,gd⟩,g⟩::l) O e w:=
 hG hg hx hy (fK _ hb) h
theorem d' {t yt:TypeId} {x y:Operand} {a b:Int} (hg:aI n e g=true) (hx:ev n e x= .int .i64 a) (hy:ev n e y= .int .i64 b) (hb: -9223372036854775808≤a - b∧a - b≤9223372036854775807)
   (h:aa P n K l O (an e d (.int .i64 (a - b))) w):aa P n K (⟨i,true,⟨some d,.binOp .sub t x y yt,ty,pos,aft,gd⟩,g⟩::l) O e w:=
 hG hg hx hy (fK _ hb) h
theorem zv {t yt:TypeId} {x y:Operand} {a b:Int} (hg:aI n e g=true) (hx:ev n e x= .int .i64 a) (hy:ev n e y= .int .i64 b) (hb: -9223372036854775808≤a*b∧a*b≤9223372036854775807)
   (h:aa P n K l O (an e d (.int .i64 (a*b))) w):aa P n K (⟨i,true,⟨some d,.binOp .mul t x y yt,ty,pos,aft,gd⟩,g⟩::l) O e w:=
 hG hg hx hy (fK _ hb) h
theorem cD {t yt:TypeId} {x y:Operand} {k:IntKind} {m:Nat} (hk:UK k m) {X Y:BitVec m} (hg:aI n e g=true) (hx:ev n e x=VU k X) (hy:ev n e y=VU k Y)
   (h:aa P n K l O (an e d (VU k (X+Y))) w):aa P n K (⟨i,true,⟨some d,.binOp .add t x y yt,ty,pos,aft,gd⟩,g⟩::l) O e w:=
 hG hg hx hy (by simp only;rw [hk.wrap,BitVec.toNat_add];simp) h
theorem nN {t yt:TypeId} {x y:Operand} {k:IntKind} {m:Nat} (hk:UK k m) {X Y:BitVec m} (hg:aI n e g=true) (hx:ev n e x=VU k X) (hy:ev n e y=VU k Y)
   (h:aa P n K l O (an e d (VU k (X - Y))) w):aa P n K (⟨i,true,⟨some d,.binOp .sub t x y yt,ty,pos,aft,gd⟩,g⟩::l) O e w:=
 hG hg hx hy (by
   simp only;rw [hk.wrap,BitVec.toNat_sub]
   have h1:=X.isLt;have h2:=Y.isLt
   rw [Int.natCast_emod]
   rw [show (((2 ^ m - Y.toNat+X.toNat:Nat)):Int)=(X.toNat:Int) - Y.toNat+(2 ^ m:Nat) from by omega]
   rw [Int.add_emod_right]) h
theorem gH {t yt:TypeId} {x y:Operand} {k:IntKind} {m:Nat} (hk:UK k m) {X Y:BitVec m} (hg:aI n e g=true) (hx:ev n e x=VU k X) (hy:ev n e y=VU k Y)
   (h:aa P n K l O (an e d (VU k (X*Y))) w):aa P n K (⟨i,true,⟨some d,.binOp .mul t x y yt,ty,pos,aft,gd⟩,g⟩::l) O e w:=
 hG hg hx hy (by simp only;rw [hk.wrap,BitVec.toNat_mul];simp) h
theorem sg {t yt:TypeId} {x y:Operand} {a b:Nat} (hg:aI n e g=true) (hx:ev n e x=VN a) (hy:ev n e y=VN b) (hb:0 < b∧a < 9223372036854775808)
   (h:aa P n K l O (an e d (VN (a / b))) w):aa P n K (⟨i,true,⟨some d,.binOp .quo t x y yt,ty,pos,aft,gd⟩,g⟩::l) O e w:=
 aa.val hg (fun w=>by
   have c:¬((b:Int)=0):=by omega
   have h1:IntKind.i64.wrap ((a:Int).tdiv b)=((a / b:Nat):Int):=by
     rw [Int.tdiv_eq_ediv_of_nonneg (by omega)]
     rw [fK _ (by have:(a:Int) / b≤a:=Int.ediv_le_self _ (by omega);have:0≤(a:Int) / b:=Int.ediv_nonneg (by omega) (by omega);omega)]
     simp
   exact hU hx hy (by simp only [binOp,ne_eq,not_true_eq_false,if_false,Op.intDiv,if_neg c,h1];rfl)) h
theorem iJ {t yt:TypeId} {x y:Operand} {a b:Nat} (hg:aI n e g=true) (hx:ev n e x=VN a) (hy:ev n e y=VN b) (hb:0 < b)
   (h:aa P n K l O (an e d (VN (a % b))) w):aa P n K (⟨i,true,⟨some d,.binOp .rem t x y yt,ty,pos,aft,gd⟩,g⟩::l) O e w:=
 aa.val hg (fun w=>by
   have c:¬((b:Int)=0):=by omega
   have h1:(a:Int).tmod b=((a % b:Nat):Int):=by rw [Int.tmod_eq_emod_of_nonneg (by omega)];simp
   exact hU hx hy (by simp only [binOp,ne_eq,not_true_eq_false,if_false,Op.intDiv,if_neg c,h1];rfl)) h
theorem iP {t yt:TypeId} {x y:Operand} {k:IntKind} {a b:Int} (hg:aI n e g=true) (hx:ev n e x= .int k a) (hy:ev n e y= .int k b) (hb:b≠0)
   (h:aa P n K l O (an e d (.int k (a.tmod b))) w):aa P n K (⟨i,true,⟨some d,.binOp .rem t x y yt,ty,pos,aft,gd⟩,g⟩::l) O e w:=
 aa.val hg (fun w=>hU hx hy (by simp only [binOp,ne_eq,not_true_eq_false,if_false,Op.intDiv,if_neg hb];rfl)) h
theorem Gc {t yt:TypeId} {x y:Operand} {k:IntKind} {a b:Int} (hg:aI n e g=true) (hx:ev n e x= .int k a) (hy:ev n e y= .int k b) (hb:b≠0)
   (h:aa P n K l O (an e d (.int k (k.wrap (a.tdiv b)))) w):aa P n K (⟨i,true,⟨some d,.binOp .quo t x y yt,ty,pos,aft,gd⟩,g⟩::l) O e w:=
 aa.val hg (fun w=>hU hx hy (by simp only [binOp,ne_eq,not_true_eq_false,if_false,Op.intDiv,if_neg hb];rfl)) h
def wR {m:Nat} (op:BinOp) (X Y:BitVec m):BitVec m:=match op with | .and=>X &&& Y | .or=>X ||| Y | .xor=>X ^^^ Y | _=>X &&& ~~~Y
theorem oS {op:BinOp} {t yt:TypeId} {x y:Operand} {k:IntKind} {m:Nat} (hk:UK k m) {X Y:BitVec m} (hg:aI n e g=true) (hx:ev n e x=VU k X) (hy:ev n e y=VU k Y)
   (a:op= .and∨op= .or∨op= .xor∨op= .andNot)
   (h:aa P n K l O (an e d (VU k (wR op X Y))) w):aa P n K (⟨i,true,⟨some d,.binOp op t x y yt,ty,pos,aft,gd⟩,g⟩::l) O e w:=
 aa.val hg (fun w=>hU hx hy (by
   have key:∀Z:BitVec k.bits,(Sem.pure (Value.int k (k.wrap Z.toNat))).run P w= .ok (Value.int k (Z.toNat:Int)) w:=fun Z=>by
     rw [hk.back Z];rfl
   cases hk <;> rcases a with rfl | rfl | rfl | rfl <;>
     (simp only [binOp,ne_eq,not_true_eq_false,if_false,Op.intBits]
      refine (key _).trans ?_
      simp only [BitVec.ofInt_natCast,BitVec.ofNat_toNat,BitVec.setWidth_eq,wR,IntKind.bits];rfl))) h
theorem dx {t yt:TypeId} {x y:Operand} {k:IntKind} {m:Nat} (hk:UK k m) {X Y:BitVec m} (hg:aI n e g=true) (hx:ev n e x=VU k X) (hy:ev n e y=VU k Y)
   (h:aa P n K l O (an e d (VU k (X &&& Y))) w):aa P n K (⟨i,true,⟨some d,.binOp .and t x y yt,ty,pos,aft,gd⟩,g⟩::l) O e w:=oS hk hg hx hy (by simp) h
theorem gI {t yt:TypeId} {x y:Operand} {k:IntKind} {m:Nat} (hk:UK k m) {X Y:BitVec m} (hg:aI n e g=true) (hx:ev n e x=VU k X) (hy:ev n e y=VU k Y)
   (h:aa P n K l O (an e d (VU k (X ||| Y))) w):aa P n K (⟨i,true,⟨some d,.binOp .or t x y yt,ty,pos,aft,gd⟩,g⟩::l) O e w:=oS hk hg hx hy (by simp) h
theorem cp {t yt:TypeId} {x y:Operand} {k:IntKind} {m:Nat} (hk:UK k m) {X Y:BitVec m} (hg:aI n e g=true) (hx:ev n e x=VU k X) (hy:ev n e y=VU k Y)
   (h:aa P n K l O (an e d (VU k (X ^^^ Y))) w):aa P n K (⟨i,true,⟨some d,.binOp .xor t x y yt,ty,pos,aft,gd⟩,g⟩::l) O e w:=oS hk hg hx hy (by simp) h
theorem Fu {t yt:TypeId} {x y:Operand} {k:IntKind} {m:Nat} (hk:UK k m) {X Y:BitVec m} (hg:aI n e g=true) (hx:ev n e x=VU k X) (hy:ev n e y=VU k Y)
   (h:aa P n K l O (an e d (VU k (X &&& ~~~Y))) w):aa P n K (⟨i,true,⟨some d,.binOp .andNot t x y yt,ty,pos,aft,gd⟩,g⟩::l) O e w:=oS hk hg hx hy (by simp) h
theorem qD {P:Program} {op:BinOp} {ρ:Operand→Value} {t yt ty:TypeId} {x y:Operand} {d:Option Tmp} {pos:String} {aft:Array Edge} {gd:Option (Nat×Bool)} {k c:IntKind} {a b:Int} {v:Value} {w:World}
   (e:op= .shl∨op= .shr) (hx:ρ x= .int k a) (hy:ρ y= .int c b) (h:(Op.shift op k a c b).run P w= .ok v w):(execOp ρ ⟨d,.binOp op t x y yt,ty,pos,aft,gd⟩).run P w= .ok (.value v) w:=by
 refine b8 ?_
 rw [hx,hy]
 have hq:(eqGuard op t x y (.int k a) (.int c b)).run P w= .ok () w:=by
   unfold eqGuard;cases op <;> rfl
 rw [Sem.run_bind,hq]
 rcases e with rfl | rfl <;> exact h
theorem hE {t yt:TypeId} {x y:Operand} {k a:IntKind} {m c:Nat} (hk:UK k m) {X:BitVec m} (hg:aI n e g=true) (hx:ev n e x=VU k X) (hy:ev n e y= .int a (c:Int))
   (h:aa P n K l O (an e d (VU k (X <<< c))) w):aa P n K (⟨i,true,⟨some d,.binOp .shl t x y yt,ty,pos,aft,gd⟩,g⟩::l) O e w:=
 aa.val hg (fun w=>qD (.inl rfl) hx hy (by
   unfold Op.shift
   rw [if_neg (by omega)]
   have:k.wrap ((X.toNat:Int)*2 ^ (min ((c:Int)).toNat k.bits))=((X <<< c).toNat:Int):=by
     rw [hk.wrap,hk.bits,BitVec.toNat_shiftLeft,Nat.shiftLeft_eq,Int.toNat_natCast]
     by_cases hc:c≤m
     · rw [Nat.min_eq_left hc];simp
     · rw [Nat.min_eq_right (by omega)]
       have b:X.toNat*2 ^ c % 2 ^ m=0:=by
         obtain ⟨q,hq⟩:∃q,c=m+q:=⟨c - m,by omega⟩
         rw [hq,Nat.pow_add,← Nat.mul_assoc,Nat.mul_comm (X.toNat) (2 ^ m),Nat.mul_assoc]
         exact Nat.mul_mod_right _ _
       rw [b]
       have:((X.toNat:Int)*2 ^ m)=(X.toNat:Int)*((2 ^ m:Nat):Int):=by simp
       rw [this,Int.mul_emod_left];rfl
   simp only [this];rfl)) h
theorem cJ {t yt:TypeId} {x y:Operand} {k a:IntKind} {m c:Nat} (hk:UK k m) {X:BitVec m} (hg:aI n e g=true) (hx:ev n e x=VU k X) (hy:ev n e y= .int a (c:Int))
   (h:aa P n K l O (an e d (VU k (X >>> c))) w):aa P n K (⟨i,true,⟨some d,.binOp .shr t x y yt,ty,pos,aft,gd⟩,g⟩::l) O e w:=
 aa.val hg (fun w=>qD (.inr rfl) hx hy (by
   unfold Op.shift
   rw [if_neg (by omega)]
   have:((X.toNat:Int).fdiv (2 ^ (min ((c:Int)).toNat k.bits)))=((X >>> c).toNat:Int):=by
     rw [hk.bits,BitVec.toNat_ushiftRight,Nat.shiftRight_eq_div_pow,Int.toNat_natCast,Int.fdiv_eq_ediv_of_nonneg _ (by exact Int.pow_nonneg (by omega))]
     by_cases hc:c≤m
     · rw [Nat.min_eq_left hc];simp
     · rw [Nat.min_eq_right (by omega)]
       have h1:=X.isLt
       have h2:2 ^ m≤2 ^ c:=Nat.pow_le_pow_right (by omega) (by omega)
       rw [Nat.div_eq_of_lt (by omega)]
       have:((2:Int) ^ m)=((2 ^ m:Nat):Int):=by simp
       rw [this,← Int.natCast_ediv,Nat.div_eq_of_lt h1]
   simp only [this];rfl)) h
theorem De {t yt:TypeId} {x y:Operand} {b:IntKind} {a c:Nat} (hg:aI n e g=true) (hx:ev n e x=VN a) (hy:ev n e y= .int b (c:Int)) (hb:a < 9223372036854775808)
   (h:aa P n K l O (an e d (VN (a / 2 ^ c))) w):aa P n K (⟨i,true,⟨some d,.binOp .shr t x y yt,ty,pos,aft,gd⟩,g⟩::l) O e w:=
 aa.val hg (fun w=>qD (.inr rfl) hx hy (by
   unfold Op.shift
   rw [if_neg (by omega)]
   have:((a:Int).fdiv (2 ^ (min ((c:Int)).toNat IntKind.i64.bits)))=((a / 2 ^ c:Nat):Int):=by
     rw [Int.toNat_natCast,Int.fdiv_eq_ediv_of_nonneg _ (by exact Int.pow_nonneg (by omega))]
     show (a:Int) / 2 ^ (min c 64)=_
     by_cases hc:c≤64
     · rw [Nat.min_eq_left hc];simp
     · rw [Nat.min_eq_right (by omega)]
       have h2:2 ^ 64≤2 ^ c:=Nat.pow_le_pow_right (by omega) (by omega)
       rw [Nat.div_eq_of_lt (by omega)]
       omega
   simp only [this];rfl)) h
def d_ (op:BinOp) (a b:Int):Bool:=match op with
 | .eql=>a==b | .neq=>a !=b | .lss=>decide (a < b) | .leq=>decide (a≤b) | .gtr=>decide (a > b) | _=>decide (a≥b)
def rf:BinOp→Bool
 | .eql | .neq | .lss | .leq | .gtr | .geq=>true
 | _=>false
theorem uS {op:BinOp} {t yt:TypeId} {x y:Operand} {k:IntKind} {a b:Int} (c:rf op=true) (hg:aI n e g=true) (hx:ev n e x= .int k a) (hy:ev n e y= .int k b)
   (h:aa P n K l O (an e d (.bool (d_ op a b))) w):aa P n K (⟨i,true,⟨some d,.binOp op t x y yt,ty,pos,aft,gd⟩,g⟩::l) O e w:=
 aa.val hg (fun w=>by
   refine hU hx hy ?_
   cases op <;> first | exact absurd c (by decide) | (simp only [binOp,ne_eq,not_true_eq_false,if_false,Op.intCmp,d_];rfl)) h
theorem aa.not {t:TypeId} {x:Operand} {b:Bool} (hg:aI n e g=true) (hx:ev n e x= .bool b)
   (h:aa P n K l O (an e d (.bool !b)) w):aa P n K (⟨i,true,⟨some d,.unOp .not t x,ty,pos,aft,gd⟩,g⟩::l) O e w:=
 aa.val hg (fun w=>b8 (by rw [hx];rfl)) h
theorem ns {t:TypeId} {x:Operand} (hg:aI n e g=true) (hx:ev n e x= .bool true)
   (h:aa P n K l O (an e d (.bool false)) w):aa P n K (⟨i,true,⟨some d,.unOp .not t x,ty,pos,aft,gd⟩,g⟩::l) O e w:=aa.not hg hx h
theorem l9 {t:TypeId} {x:Operand} (hg:aI n e g=true) (hx:ev n e x= .bool false)
   (h:aa P n K l O (an e d (.bool true)) w):aa P n K (⟨i,true,⟨some d,.unOp .not t x,ty,pos,aft,gd⟩,g⟩::l) O e w:=aa.not hg hx h
theorem aa.aF {c a b:Operand} {v:Value} (hg:aI n e g=true) (hc:ev n e c= .bool true) (ha:ev n e a=v)
   (h:aa P n K l O (an e d v) w):aa P n K (⟨i,true,⟨some d,.pick c a b,ty,pos,aft,gd⟩,g⟩::l) O e w:=
 aa.val hg (fun w=>by simp [execOp,hc,ha,asBool,pure]) h
theorem Gd {c a b:Operand} {v:Value} (hg:aI n e g=true) (hc:ev n e c= .bool false) (hb:ev n e b=v)
   (h:aa P n K l O (an e d v) w):aa P n K (⟨i,true,⟨some d,.pick c a b,ty,pos,aft,gd⟩,g⟩::l) O e w:=
 aa.val hg (fun w=>by simp [execOp,hc,hb,asBool,pure]) h
theorem b0 {c a b:Operand} {v:Bool} (hg:aI n e g=true) (hc:ev n e c= .bool true) (ha:ev n e a= .bool v)
   (h:aa P n K l O (an e d (.bool v)) w):aa P n K (⟨i,true,⟨some d,.pick c a b,ty,pos,aft,gd⟩,g⟩::l) O e w:=aa.aF hg hc ha h
theorem ca {c a b:Operand} {v:Bool} (hg:aI n e g=true) (hc:ev n e c= .bool false) (hb:ev n e b= .bool v)
   (h:aa P n K l O (an e d (.bool v)) w):aa P n K (⟨i,true,⟨some d,.pick c a b,ty,pos,aft,gd⟩,g⟩::l) O e w:=Gd hg hc hb h
theorem AY {t:TypeId} {x:Operand} {a:Int} (hg:aI n e g=true) (hx:ev n e x= .int .i64 a) (hb: -9223372036854775808≤ -a∧ -a≤9223372036854775807)
   (h:aa P n K l O (an e d (.int .i64 (-a))) w):aa P n K (⟨i,true,⟨some d,.unOp .neg t x,ty,pos,aft,gd⟩,g⟩::l) O e w:=
 aa.val hg (fun w=>b8 (by
   rw [hx]
   show (Op.intArith .sub .i64 0 a).run P w=_
   simp only [Op.intArith]
   rw [show (0:Int) - a= -a by omega,fK _ hb];rfl)) h
theorem AD {t:TypeId} {x:Operand} {k:IntKind} {m:Nat} (hk:UK k m) {X:BitVec m} (hg:aI n e g=true) (hx:ev n e x=VU k X)
   (h:aa P n K l O (an e d (VU k (~~~X))) w):aa P n K (⟨i,true,⟨some d,.unOp .xor t x,ty,pos,aft,gd⟩,g⟩::l) O e w:=
 aa.val hg (fun w=>b8 (by
   rw [hx]
   show (Op.intBits .xor k (if k.signed then -1 else k.max) (X.toNat:Int)).run P w=_
   have key:∀Z:BitVec k.bits,(Sem.pure (Value.int k (k.wrap Z.toNat))).run P w= .ok (Value.int k (Z.toNat:Int)) w:=fun Z=>by
     rw [hk.back Z];rfl
   rw [hk.A7]
   cases hk <;>
     (simp only [Op.intBits,Bool.false_eq_true,if_false]
      refine (key _).trans ?_
      simp only [BitVec.ofInt_natCast,BitVec.ofNat_toNat,BitVec.setWidth_eq,IntKind.bits]
      rw [← BitVec.allOnes_xor];rfl))) h
theorem BB {P:Program} {s t:TypeId} {k b:IntKind} {a:Int} {w:World} (c:P.underlying t=some (.int b)) (hs:(P.underlying s).isSome=true):
   (convert s t (.int k a)).run P w= .ok (.int b (b.wrap a)) w:=by
 obtain ⟨d,hs⟩:=Option.isSome_iff_exists.1 hs
 unfold convert
 simp only [Sem.run_bind,run_underlying hs,run_underlying c,Result.andThen]
 cases d <;> rfl
theorem aa.conv {s t:TypeId} {x:Operand} {k c:IntKind} {a b:Int} (f:P.underlying t=some (.int c)) (hs:(P.underlying s).isSome=true) (hg:aI n e g=true) (hx:ev n e x= .int k a) (hb:c.wrap a=b)
   (h:aa P n K l O (an e d (.int c b)) w):aa P n K (⟨i,true,⟨some d,.convert s t x,ty,pos,aft,gd⟩,g⟩::l) O e w:=
 aa.val hg (fun w=>b8 (by rw [hx,BB f hs,hb])) h
theorem kf {s t:TypeId} {x:Operand} {k b:IntKind} {m' a:Nat} (c:UK b m') (f:P.underlying t=some (.int b)) (hs:(P.underlying s).isSome=true) (hg:aI n e g=true) (hx:ev n e x= .int k (a:Int))
   (h:aa P n K l O (an e d (VU b (BitVec.ofNat m' a))) w):aa P n K (⟨i,true,⟨some d,.convert s t x,ty,pos,aft,gd⟩,g⟩::l) O e w:=
 aa.conv f hs hg hx (by rw [c.wrap,BitVec.toNat_ofNat,Int.natCast_emod]) h
theorem dU {s t:TypeId} {x:Operand} {k a:IntKind} {m m':Nat} (b:UK a m') {X:BitVec m} (c:P.underlying t=some (.int a)) (hs:(P.underlying s).isSome=true) (hg:aI n e g=true) (hx:ev n e x=VU k X)
   (h:aa P n K l O (an e d (VU a (X.setWidth m'))) w):aa P n K (⟨i,true,⟨some d,.convert s t x,ty,pos,aft,gd⟩,g⟩::l) O e w:=
 aa.conv c hs hg hx (by rw [b.wrap,BitVec.toNat_setWidth,Int.natCast_emod]) h
theorem h8 {s t:TypeId} {x:Operand} {k:IntKind} {a:Nat} (b:P.underlying t=some (.int .i64)) (hs:(P.underlying s).isSome=true) (hg:aI n e g=true) (hx:ev n e x= .int k (a:Int)) (hb:a < 9223372036854775808)
   (h:aa P n K l O (an e d (VN a)) w):aa P n K (⟨i,true,⟨some d,.convert s t x,ty,pos,aft,gd⟩,g⟩::l) O e w:=
 aa.conv b hs hg hx (fK _ (by omega)) h
theorem hQ {s t:TypeId} {x:Operand} {k b:IntKind} {m':Nat} {a:Int} (c:UK b m') (f:P.underlying t=some (.int b)) (hs:(P.underlying s).isSome=true) (hg:aI n e g=true) (hx:ev n e x= .int k a)
   (h:aa P n K l O (an e d (VU b (BitVec.ofInt m' a))) w):aa P n K (⟨i,true,⟨some d,.convert s t x,ty,pos,aft,gd⟩,g⟩::l) O e w:=
 aa.conv f hs hg hx (by rw [c.wrap,BitVec.toNat_ofInt,Int.toNat_of_nonneg (Int.emod_nonneg _ (by have:=Nat.two_pow_pos m';omega))]) h
end step
end Go.LW
namespace Go.LW
set_option linter.unusedSimpArgs false
set_option linter.unusedVariables false
set_option linter.unusedSectionVars false
open Go Go.RowKit
structure Rg where
 p:Option Nat
 off:Nat
 n:Nat
 f:Nat→Value
 rw:Bool
def Rg.at (r:Rg) (w:World):Prop:=∀j,j < r.n→∃b,r.p=some b∧w.cell? ⟨b,r.off+j,none⟩=some (r.f j)
def Rg.free (B:Nat) (r:Rg) (w:World):Prop:=r.rw=true→∀j,j < r.n→∃b,r.p=some b∧B≤b∧w.frozen? ⟨b,r.off+j,none⟩=false
def Rg.apart (r s:Rg):Prop:=r.rw=true∨s.rw=true→r.p≠s.p∨r.off+r.n≤s.off∨s.off+s.n≤r.off∨r.n=0∨s.n=0
theorem Rg.apart.symm {r s:Rg} (h:r.apart s):s.apart r:=fun hw=>by
 rcases h hw.symm with h | h | h | h | h
 · exact .inl (Ne.symm h)
 · exact .inr (.inr (.inl h))
 · exact .inr (.inl h)
 · exact .inr (.inr (.inr (.inr h)))
 · exact .inr (.inr (.inr (.inl h)))
def zX:Obj→Bool
 | .map _ _=>true
 | .mapIter _ _ _ _=>true
 | _=>false
structure MR where
 m:Nat
 ok:Obj→Prop
def MR.at (r:MR) (w:World):Prop:=∃o,zX o=true∧w.heap[r.m]? =some o∧r.ok o
structure aC where
 w:World
 M:List MR
def aC.on (b:aC) (N:List MR):aC:=⟨b.w,N ++b.M⟩
structure Blw (B:Nat) (w w':World):Prop extends Below B w w' where
 drawn:w.drawn≤w'.drawn
theorem Blw.refl (B:Nat) (w:World):Blw B w w:=⟨Below.refl B w,Nat.le_refl _⟩
theorem Blw.trans {B:Nat} {a b c:World} (h:Blw B a b) (k:Blw B b c):Blw B a c:=⟨h.toBelow.trans k.toBelow,Nat.le_trans h.drawn k.drawn⟩
theorem Blw.mono {B a:Nat} {w w':World} (h:Blw B w w') (b:a≤B):Blw a w w':=⟨h.toBelow.mono b,h.drawn⟩
theorem Blw.drew {B:Nat} {a w:World} (h:Blw B a w):Blw B a w.drew:=⟨h.toBelow.drew,Nat.le_succ_of_le h.drawn⟩
theorem Blw.alloc {B:Nat} {a w:World} (h:Blw B a w) (b:B≤w.heap.size) (o:Obj):Blw B a (w.alloc o):=⟨h.toBelow.alloc b o,h.drawn⟩
theorem Blw.setCell {B:Nat} {a w:World} (h:Blw B a w) {p:Addr} (hp:B≤p.block) (u:Value):Blw B a (w.setCell p u):=⟨h.toBelow.setCell hp u,h.drawn⟩
structure fo (B:Nat) (a:aC) (w:World):Prop extends Blw B a.w w where
 maps:∀r∈a.M,B≤r.m∧r.at w
 nE:a.M.Pairwise fun r s=>r.m≠s.m
theorem MR.tt {r:MR} {w w':World} (h:r.at w) (hb:w'.heap[r.m]? =w.heap[r.m]?):r.at w':=by
 obtain ⟨o,h1,h2,h3⟩:=h
 exact ⟨o,h1,by rw [hb];exact h2,h3⟩
theorem MR.k9 {r:MR} {w:World} (h:r.at w):r.m < w.heap.size:=by
 obtain ⟨o,_,h2,_⟩:=h
 exact (Array.getElem?_eq_some_iff.1 h2).1
theorem fo.refl (B:Nat) (w:World):fo B ⟨w,[]⟩ w:=⟨Blw.refl B w,fun _ h=>(by cases h),.nil⟩
theorem fo.drew {B:Nat} {a:aC} {w:World} (h:fo B a w):fo B a w.drew:=⟨h.toBlw.drew,h.maps,h.nE⟩
theorem fo.later {B:Nat} {a:aC} {w w':World} (h:fo B a w) (hb:Blw w.heap.size w w') (c:B≤w.heap.size):fo B a w':=
 ⟨h.toBlw.trans (hb.mono c),fun r b=>⟨(h.maps r b).1,MR.tt (h.maps r b).2 (hb.block r.m (MR.k9 (h.maps r b).2))⟩,h.nE⟩
theorem Di {r:MR} {w:World} (h:r.at w) (p:Addr) (u:Value):r.at (w.setCell p u):=by
 obtain ⟨o,ho,h2,h3⟩:=h
 refine ⟨o,ho,?_,h3⟩
 simp only [World.setCell,Array.getElem?_modify]
 by_cases hk:p.block=r.m
 · rw [if_pos hk,h2]
   cases o <;> first | rfl | cases ho
 · rw [if_neg hk];exact h2
theorem fo.setCell {B:Nat} {a:aC} {w:World} (h:fo B a w) {p:Addr} (hp:B≤p.block) (u:Value):fo B a (w.setCell p u):=
 ⟨h.toBlw.setCell hp u,fun r b=>⟨(h.maps r b).1,Di (h.maps r b).2 p u⟩,h.nE⟩
structure St (B:Nat) (w0:aC) (L:List Rg) (w:World):Prop where
 below:fo B w0 w
 base:B≤w.heap.size
 at_:∀r∈L,r.at w
 free:∀r∈L,r.free B w
 apart:L.Pairwise Rg.apart
theorem Rg.tt {r:Rg} {w w':World} (h:r.at w) (hb:∀b,r.p=some b→r.n≠0→w'.heap[b]? =w.heap[b]?):r.at w':=fun j a=>by
 obtain ⟨b,hp,hc⟩:=h j a
 exact ⟨b,hp,by rw [World.cell?_of_block (w:=w) (hb b hp (by omega))];exact hc⟩
theorem Gs {B:Nat} {r:Rg} {w w':World} (h:r.free B w) (hb:∀b,r.p=some b→r.n≠0→w'.heap[b]? =w.heap[b]?):r.free B w':=fun hw j a=>by
 obtain ⟨b,hp,c,hc⟩:=h hw j a
 exact ⟨b,hp,c,by rw [World.frozen?_of_block (w:=w) (hb b hp (by omega))];exact hc⟩
theorem Rg.k9 {r:Rg} {w:World} (h:r.at w) {b:Nat} (hp:r.p=some b) (d:r.n≠0):b < w.heap.size:=by
 obtain ⟨c,a,hc⟩:=h 0 (by omega)
 obtain rfl:b=c:=by rw [hp] at a;exact Option.some.inj a
 exact block_lt_of_cell hc
section st
variable {B:Nat} {w0:aC} {w:World} {L:List Rg}
theorem St.drew (h:St B w0 L w):St B w0 L w.drew:=⟨h.below.drew,h.base,h.at_,h.free,h.apart⟩
theorem St.later (h:St B w0 L w) {w':World} (hb:Blw w.heap.size w w'):St B w0 L w':=by
 refine ⟨h.below.later hb h.base,Nat.le_trans h.base hb.size,fun r a=>?_,fun r a=>?_,h.apart⟩
 · exact Rg.tt (h.at_ r a) fun b hp c=>hb.block b (Rg.k9 (h.at_ r a) hp c)
 · exact Gs (h.free r a) fun b hp c=>hb.block b (Rg.k9 (h.at_ r a) hp c)
theorem St.sub (h:St B w0 L w) {L':List Rg} (hs:L'.Sublist L):St B w0 L' w:=
 ⟨h.below,h.base,fun r a=>h.at_ r (hs.subset a),fun r a=>h.free r (hs.subset a),h.apart.sublist hs⟩
theorem St.cons (h:St B w0 L w) {r:Rg} (ha:r.at w) (hf:r.free B w) (a:∀s∈L,r.apart s):St B w0 (r::L) w:=
 ⟨h.below,h.base,fun s hs=>by rcases List.mem_cons.1 hs with rfl | hs;exact ha;exact h.at_ s hs,
  fun s hs=>by rcases List.mem_cons.1 hs with rfl | hs;exact hf;exact h.free s hs,List.pairwise_cons.2 ⟨a,h.apart⟩⟩
theorem St.ro (h:St B w0 L w) {p:Option Nat} {off n:Nat} {f:Nat→Value} (ha:(Rg.mk p off n f false).at w) (a:∀s∈L,s.rw=true→(Rg.mk p off n f false).apart s):St B w0 (⟨p,off,n,f,false⟩::L) w:=
 h.cons ha (fun hw=>by cases hw) fun s hs hw=>by
   rcases hw with hw | hw
   · cases hw
   · exact a s hs hw (.inr hw)
theorem St.mem (h:St B w0 L w) {i:Nat} {r:Rg} (a:L[i]? =some r):r.at w:=h.at_ r (List.mem_of_getElem? a)
theorem uR (B:Nat) (w:World) (h:B≤w.heap.size):St B ⟨w,[]⟩ [] w:=⟨fo.refl _ _,h,fun r a=>(by cases a),fun r a=>(by cases a),List.Pairwise.nil⟩
def aS (ps:List (Nat×(Nat→Value))):List Value:=ps.flatMap fun q=>(List.range q.1).map q.2
def AG (ps:List (Nat×(Nat→Value))):Value:= .agg (aS ps).toArray
def ao (b:Nat):Nat→List (Nat×(Nat→Value))→List Rg
 | _,[]=> []
 | o,q::ps=>⟨some b,o,q.1,q.2,true⟩::ao b (o+q.1) ps
theorem jY (q:Nat×(Nat→Value)) (ps:List (Nat×(Nat→Value))):aS (q::ps)=(List.range q.1).map q.2 ++aS ps:=rfl
theorem x0 (b:Nat) (w:World):∀(ps:List (Nat×(Nat→Value))) (o:Nat),(∀j v,(aS ps)[j]? =some v→w.cell? ⟨b,o+j,none⟩=some v)→∀r∈ao b o ps,r.at w
 | [],_,_,r,a=>by cases a
 | q::ps,o,h,r,a=>by
   rcases List.mem_cons.1 a with rfl | a
   · intro j d
     refine ⟨b,rfl,h j (q.2 j) ?_⟩
     have c:j < q.1:=d
     rw [jY,List.getElem?_append_left (by simpa using c)]
     simp [c]
   · refine x0 b w ps (o+q.1) (fun j v hv=>?_) r a
     rw [Nat.add_assoc]
     refine h (q.1+j) v ?_
     rw [jY,List.getElem?_append_right (by simp)]
     simpa using hv
theorem pX (b:Nat):∀(ps:List (Nat×(Nat→Value))) (o:Nat),∀r∈ao b o ps,r.p=some b∧o≤r.off
 | [],_,r,a=>by cases a
 | q::ps,o,r,a=>by
   rcases List.mem_cons.1 a with rfl | a
   · exact ⟨rfl,Nat.le_refl _⟩
   · have:=pX b ps (o+q.1) r a
     exact ⟨this.1,by omega⟩
theorem w9 (b:Nat):∀(ps:List (Nat×(Nat→Value))) (o:Nat),(ao b o ps).Pairwise Rg.apart
 | [],_=> .nil
 | q::ps,o=>by
   refine List.pairwise_cons.2 ⟨fun s hs _=>?_,w9 b ps _⟩
   have:=(pX b ps (o+q.1) s hs).2
   exact .inr (.inl this)
theorem St.alloc (h:St B w0 L w) (ps:List (Nat×(Nat→Value))) (T:TypeId):St B w0 (ao w.heap.size 0 ps ++L) (w.alloc (.cells (aS ps).toArray T)):=by
 have hb:Blw w.heap.size w (w.alloc (.cells (aS ps).toArray T)):=(Blw.refl _ _).alloc (Nat.le_refl _) _
 have b:=h.later hb
 have c:(w.alloc (.cells (aS ps).toArray T)).heap[w.heap.size]? =some (.cells (aS ps).toArray T):=heap_alloc_new _ _
 have e:∀j v,(aS ps)[j]? =some v→(w.alloc (.cells (aS ps).toArray T)).cell? ⟨w.heap.size,0+j,none⟩=some v:=fun j v hv=>by
   simp only [World.cell?,c]
   simpa using hv
 refine ⟨b.below,b.base,fun r a=>?_,fun r a=>?_,?_⟩
 · rcases List.mem_append.1 a with a | a
   · exact x0 _ _ ps 0 e r a
   · exact b.at_ r a
 · rcases List.mem_append.1 a with a | a
   · intro _ j f
     refine ⟨w.heap.size,(pX _ ps 0 r a).1,h.base,?_⟩
     unfold World.frozen?
     rw [c]
     simp
   · exact b.free r a
 · refine List.pairwise_append.2 ⟨w9 _ ps 0,h.apart,fun r a s hs _=>?_⟩
   by_cases d:s.n=0
   · exact .inr (.inr (.inr (.inr d)))
   · refine .inl ?_
     rw [(pX _ ps 0 r a).1]
     intro he
     have:=Rg.k9 (h.at_ s hs) he.symm d
     omega
theorem vh {w:World} {b o:Nat} {v u:Value} (h:w.cell? ⟨b,o,none⟩=some u) (a o':Nat):(w.setCell ⟨b,o,none⟩ v).cell? ⟨a,o',none⟩=if a=b∧o'=o then some v else w.cell? ⟨a,o',none⟩:=by
 by_cases hb:a=b∧o'=o
 · obtain ⟨rfl,rfl⟩:=hb
   rw [if_pos ⟨rfl,rfl⟩]
   exact World.cell?_setCell_same w _ v h
 · rw [if_neg hb]
   exact World.cell?_setCell_other w _ _ v (fun e=>hb (by injection e with c d;exact ⟨c.symm,d.symm⟩))
theorem zt (w:World) (a:Addr) (v:Value) (q:Addr):(w.setCell a v).frozen? q=w.frozen? q:=by
 simp only [World.setCell,World.frozen?,Array.getElem?_modify]
 by_cases h:a.block=q.block
 · rw [if_pos h]
   cases hq:w.heap[q.block]? with
   | none=>rfl
   | some o=>cases o <;> simp
 · rw [if_neg h]
theorem St.set (h:St B w0 L w) {i b off m j:Nat} {f:Nat→Value} {v:Value} (l:L[i]? =some ⟨some b,off,m,f,true⟩) (z:j < m):
   St B w0 (L.set i ⟨some b,off,m,an f j v,true⟩) (w.setCell ⟨b,off+j,none⟩ v):=by
 have g:=List.mem_of_getElem? l
 obtain ⟨a,hp,hc⟩:=h.at_ _ g j z
 obtain rfl:b=a:=Option.some.inj hp
 obtain ⟨a,hp,H,O⟩:=h.free _ g rfl j z
 obtain rfl:b=a:=Option.some.inj hp
 have hc:w.cell? ⟨b,off+j,none⟩=some (f j):=hc
 have A:i < L.length:=(List.getElem?_eq_some_iff.1 l).1
 have n:L[i]=⟨some b,off,m,f,true⟩:=(List.getElem?_eq_some_iff.1 l).2
 refine ⟨h.below.setCell H v,by simpa [World.setCell] using h.base,fun r d=>?_,fun r d=>?_,?_⟩
 · obtain ⟨k,hk,c⟩:=List.getElem_of_mem d
   rw [List.getElem_set] at c
   by_cases C:i=k
   · rw [if_pos C] at c
     subst c
     intro q hq
     refine ⟨b,rfl,?_⟩
     rw [vh hc]
     by_cases o:q=j
     · subst o;simp [fz]
     · rw [if_neg (by rintro ⟨_,h2⟩;exact o (by simp only at h2;omega))]
       obtain ⟨a,hp,p⟩:=h.at_ _ g q hq
       obtain rfl:b=a:=Option.some.inj hp
       simp only [eR _ _ _ _ o]
       exact p
   · rw [if_neg C] at c
     have s:k < L.length:=by simpa using hk
     have I:(Rg.mk (some b) off m f true).apart r:=by
       rw [← n,← c]
       rcases Nat.lt_or_ge i k with J | P
       · exact List.pairwise_iff_getElem.1 h.apart i k A s J
       · exact (List.pairwise_iff_getElem.1 h.apart k i s A (by omega)).symm
     intro q hq
     obtain ⟨a,D,p⟩:=h.at_ r (c ▸ List.getElem_mem s) q hq
     refine ⟨a,D,?_⟩
     rw [vh hc,if_neg ?_]
     · exact p
     · rintro ⟨rfl,h2⟩
       rcases I (.inl rfl) with h3 | h3 | h3 | h3 | h3
       · exact h3 D.symm
       · simp only at h3;omega
       · simp only at h3;omega
       · simp only at h3;omega
       · omega
 · have E:∀q,(w.setCell ⟨b,off+j,none⟩ v).frozen? q=w.frozen? q:=zt w _ v
   intro hw q hq
   rcases List.mem_or_eq_of_mem_set d with d | rfl
   · obtain ⟨a,hp,t,u⟩:=h.free r d hw q hq
     exact ⟨a,hp,t,by rw [E];exact u⟩
   · obtain ⟨a,hp,t,u⟩:=h.free _ g rfl q hq
     exact ⟨a,hp,t,by rw [E];exact u⟩
 · rw [List.pairwise_iff_getElem]
   intro x y hx hy K
   have M:x < L.length:=by simpa using hx
   have N:y < L.length:=by simpa using hy
   have e:=List.pairwise_iff_getElem.1 h.apart x y M N K
   rw [List.getElem_set,List.getElem_set]
   by_cases F:i=x
   · subst F
     rw [if_pos rfl,if_neg (by omega)]
     rw [n] at e
     exact e
   · rw [if_neg F]
     by_cases G:i=y
     · subst G
       rw [if_pos rfl]
       rw [n] at e
       exact e
     · rw [if_neg G];exact e
end st
end Go.LW
namespace Go.LW
set_option linter.unusedSimpArgs false
set_option linter.unusedVariables false
set_option linter.unusedSectionVars false
open Go Go.RowKit
inductive dF (L:List Rg) (b:Nat):Nat→List (Nat×(Nat→Value))→Prop
 | nil {o:Nat}:dF L b o []
 | cons {o n:Nat} {f:Nat→Value} {rw:Bool} {ps:List (Nat×(Nat→Value))} (i:Nat) (h:L[i]? =some ⟨some b,o,n,f,rw⟩) (t:dF L b (o+n) ps):dF L b o ((n,f)::ps)
theorem fj (ps:List (Nat×(Nat→Value))):(aS ps).length=(ps.map (·.1)).sum:=by
 induction ps with
 | nil=>rfl
 | cons q ps a=>rw [jY];simp [a]
theorem dF.cells {L:List Rg} {b:Nat} {B:Nat} {w0:aC} {w:World} (c:St B w0 L w) {o:Nat} {ps:List (Nat×(Nat→Value))} (h:dF L b o ps):
   ∀j v,(aS ps)[j]? =some v→w.cell? ⟨b,o+j,none⟩=some v:=by
 induction h with
 | nil=>intro j v hv;simp [aS] at hv
 | @cons o n f rw ps i h t d=>
   intro j v hv
   rw [jY] at hv
   by_cases a:j < n
   · rw [List.getElem?_append_left (by simpa using a)] at hv
     obtain ⟨e,hp,hc⟩:=c.mem h j a
     obtain rfl:b=e:=Option.some.inj hp
     simp only [] at hc
     rw [hc]
     simpa [a] using hv
   · rw [List.getElem?_append_right (by simpa using a)] at hv
     have:=d (j - n) v (by simpa using hv)
     rw [show o+n+(j - n)=o+j by omega] at this
     exact this
inductive ae:aW→List Rg→Prop
 | nil {L:List Rg}:ae [] L
 | cons {O:aW} {L:List Rg} {k:Nat} {r:Rg} (i:Nat) (h:L[i]? =some r) (t:ae O L):ae ((k,r.at)::O) L
 | nh {O:aW} {L:List Rg} {k:Nat} (t:ae O L):ae ((k,fun _=>True)::O) L
 | parts {O:aW} {L:List Rg} {k b o:Nat} {ps:List (Nat×(Nat→Value))} (h:dF L b o ps) (t:ae O L):ae ((k,fun w=>∀j v,(aS ps)[j]? =some v→w.cell? ⟨b,o+j,none⟩=some v)::O) L
theorem ae.keep {O:aW} {L:List Rg} (h:ae O L) {B:Nat} {w0:aC} {w w':World} (a:St B w0 L w'):∀p∈O,p.2 w→p.2 w':=by
 induction h with
 | nil=>intro p hp;cases hp
 | cons i h t b=>
   intro p hp hw
   rcases List.mem_cons.1 hp with rfl | hp
   · exact a.mem h
   · exact b a p hp hw
 | nh t b=>
   intro p hp hw
   rcases List.mem_cons.1 hp with rfl | hp
   · trivial
   · exact b a p hp hw
 | parts h t b=>
   intro p hp hw
   rcases List.mem_cons.1 hp with rfl | hp
   · exact h.cells a
   · exact b a p hp hw
def dC (P:Program) (t:TypeId):Bool:=match P.underlying t with
 | some (.struct _)=>false
 | some (.array _ _)=>false
 | some _=>true
 | none=>false
def cz (P:Program) (t:TypeId) (n:Nat):Bool:=(match P.underlying t with
 | some (.struct _)=>true
 | some (.array _ _)=>true
 | _=>false) && (match P.info? t with | some i=>i.size==n | none=>false)
def bN (P:Program) (t:TypeId) (n:Nat):Bool:=match P.info? t with | some i=>i.size==n | none=>false
def bc (P:Program) (f:FuncId):Bool:=match P.funcs[f]? with
 | some fn=> !(fn.name== "runtime.NumGoroutine") && !fn.body.isNone
 | none=>false
theorem yr {P:Program} {t:TypeId} {a:Addr} {v:Value} {w:World} (b:dC P t=true) (hc:w.cell? a=some v):(Instr.loadAt t (.pointer (some a))).run P w= .ok v w:=by
 have c:(isAgg t).run P w= .ok false w:=by
   unfold dC at b
   unfold isAgg
   cases hu:P.underlying t with
   | none=>rw [hu] at b;cases b
   | some d=>
     rw [Sem.run_bind,run_underlying hu w]
     rw [hu] at b
     cases d <;> first | rfl | cases b
 simp [Instr.loadAt,Instr.sureAddr,loadVar,Sem.run_bind,c,hc]
theorem n0 {P:Program} {t:TypeId} {n:Nat} (h:cz P t n=true):∃d,P.underlying t=some d∧d.isRow=true∧(P.info? t).map (·.size)=some n:=by
 unfold cz at h
 simp only [Bool.and_eq_true] at h
 obtain ⟨h1,h2⟩:=h
 cases hu:P.underlying t with
 | none=>rw [hu] at h1;cases h1
 | some d=>
   rw [hu] at h1
   refine ⟨d,rfl,(by cases d <;> first | rfl | cases h1),?_⟩
   cases hi:P.info? t with
   | none=>rw [hi] at h2;cases h2
   | some i=>
     rw [hi] at h2
     simp only [beq_iff_eq] at h2
     simp [h2]
theorem et {P:Program} {t:TypeId} {n:Nat} (h:bN P t n=true) (w:World):(sizeOf t).run P w= .ok n w:=by
 unfold bN at h
 cases hi:P.info? t with
 | none=>rw [hi] at h;cases h
 | some i=>
   rw [hi] at h
   simp only [beq_iff_eq] at h
   simp [sizeOf,typeInfo,hi,h]
theorem x_ {P:Program} {t:TypeId} {b o m:Nat} {f:Nat→Value} {w:World} (c:cz P t m=true) (hc:∀j,j < m→w.cell? ⟨b,o+j,none⟩=some (f j)):
   (Instr.loadAt t (.pointer (some ⟨b,o,none⟩))).run P w= .ok (.agg ((List.range m).map f).toArray) w:=by
 obtain ⟨d,hu,e,hi⟩:=n0 c
 refine run_loadAt_mid w b o t ((List.range m).map f) d (fun j v hv=>?_) hu e (by simpa using hi)
 have a:j < m:=by have:=(List.getElem?_eq_some_iff.1 hv).1;simpa using this
 rw [hc j a]
 simpa [a] using hv
theorem St.zp {B:Nat} {w0:aC} {w:World} {L L':List Rg} (h:St B w0 L w) (hl:L'.length=L.length)
   (a:∀q (h1:q < L.length) (h2:q < L'.length),L'[q].p=L[q].p∧L'[q].off=L[q].off∧L'[q].n=L[q].n∧L'[q].rw=L[q].rw∧∀j,j < L[q].n→L'[q].f j=L[q].f j):St B w0 L' w:=by
 refine ⟨h.below,h.base,fun r hm=>?_,fun r hm=>?_,?_⟩
 · obtain ⟨q,hq,rfl⟩:=List.getElem_of_mem hm
   obtain ⟨h1,h2,h3,c,d⟩:=a q (by omega) hq
   intro j e
   obtain ⟨b,hp,hc⟩:=h.at_ L[q] (List.getElem_mem (by omega)) j (by omega)
   exact ⟨b,by rw [h1];exact hp,by rw [h2,d j (by omega)];exact hc⟩
 · obtain ⟨q,hq,rfl⟩:=List.getElem_of_mem hm
   obtain ⟨h1,h2,h3,c,d⟩:=a q (by omega) hq
   intro hw j e
   obtain ⟨b,hp,g,hc⟩:=h.free L[q] (List.getElem_mem (by omega)) (by rw [← c];exact hw) j (by omega)
   exact ⟨b,by rw [h1];exact hp,g,by rw [h2];exact hc⟩
 · rw [List.pairwise_iff_getElem]
   intro x y hx hy i
   have k:=List.pairwise_iff_getElem.1 h.apart x y (by omega) (by omega) i
   obtain ⟨h1,h2,h3,c,_⟩:=a x (by omega) hx
   obtain ⟨l,m,o,s,_⟩:=a y (by omega) hy
   unfold Rg.apart at*
   rw [h1,h2,h3,c,l,m,o,s]
   exact k
theorem St.qY {B:Nat} {w0:aC} {w:World} {L:List Rg} {k off m:Nat} {p:Option Nat} {f f':Nat→Value} {rw:Bool} (h:St B w0 (L.set k ⟨p,off,m,f,rw⟩) w) (hf:∀j,j < m→f j=f' j):St B w0 (L.set k ⟨p,off,m,f',rw⟩) w:=by
 refine h.zp (by simp) fun q h1 h2=>?_
 rw [List.getElem_set,List.getElem_set]
 by_cases hk:k=q
 · rw [if_pos hk,if_pos hk];exact ⟨rfl,rfl,rfl,rfl,fun j a=>(hf j a).symm⟩
 · rw [if_neg hk,if_neg hk];exact ⟨rfl,rfl,rfl,rfl,fun j _=>rfl⟩
section step
variable {P:Program} {n:Nat} {K:aW→Env→World→Prop} {l:List It} {O:aW} {e:Env} {w:World} {i ty:Nat} {d:Tmp} {pos:String} {aft:Array Edge} {gd g:Option (Nat×Bool)}
variable {B:Nat} {w0:aC} {L:List Rg}
theorem aa.held {op:Op} {v:Value} (S:World→Prop) (hg:aI n e g=true) (a:S w) (hv:∀w,S w→(execOp (ev n e) ⟨some d,op,ty,pos,aft,gd⟩).run P w= .ok (.value v) w)
   (h:aa P n K l ((i,S)::O) (an e d v) w):aa P n K (⟨i,true,⟨some d,op,ty,pos,aft,gd⟩,g⟩::l) O e w:=by
 unfold aa
 rw [if_pos hg]
 exact ⟨v,.inr ⟨S,a,hv,h⟩⟩
theorem bk (a:St B w0 L w) {t:TypeId} {x:Operand} {b off j m:Nat} {f:Nat→Value} {rw:Bool} (k:Nat) (hg:aI n e g=true) (hx:ev n e x= .pointer (some ⟨b,off+j,none⟩)) (c:L[k]? =some ⟨some b,off,m,f,rw⟩)
   (o:j < m) (p:dC P t=true) (h:aa P n K l ((i,(Rg.mk (some b) off m f rw).at)::O) (an e d (f j)) w):
   aa P n K (⟨i,true,⟨some d,.load t x,ty,pos,aft,gd⟩,g⟩::l) O e w:=
 aa.held _ hg (a.mem c) (fun w hw=>b8 (by
   rw [hx]
   obtain ⟨q,hp,hc⟩:=hw j o
   obtain rfl:b=q:=Option.some.inj hp
   exact yr p hc)) h
theorem aX (a:St B w0 L w) {t:TypeId} {x:Operand} {b off m:Nat} {f:Nat→Value} {rw:Bool} (k:Nat) (hg:aI n e g=true) (hx:ev n e x= .pointer (some ⟨b,off,none⟩)) (c:L[k]? =some ⟨some b,off,m,f,rw⟩)
   (o:0 < m) (p:dC P t=true) (h:aa P n K l ((i,(Rg.mk (some b) off m f rw).at)::O) (an e d (f 0)) w):
   aa P n K (⟨i,true,⟨some d,.load t x,ty,pos,aft,gd⟩,g⟩::l) O e w:=
 bk a k hg (j:=0) (by rw [hx];rfl) c o p h
theorem bO (a:St B w0 L w) {t:TypeId} {x:Operand} {b o:Nat} {ps:List (Nat×(Nat→Value))} (hg:aI n e g=true) (hx:ev n e x= .pointer (some ⟨b,o,none⟩)) (c:dF L b o ps)
   (f:cz P t (ps.map (·.1)).sum=true) (h:aa P n K l ((i,fun w=>∀j v,(aS ps)[j]? =some v→w.cell? ⟨b,o+j,none⟩=some v)::O) (an e d (AG ps)) w):
   aa P n K (⟨i,true,⟨some d,.load t x,ty,pos,aft,gd⟩,g⟩::l) O e w:=
 aa.held _ hg (c.cells a) (fun w hw=>b8 (by
   rw [hx]
   obtain ⟨k,hu,m,hi⟩:=n0 f
   exact run_loadAt_mid w b o t (aS ps) k hw hu m (by rw [fj];exact hi))) h
theorem lf (a:St B w0 L w) {t:TypeId} {x:Operand} {b o off m m':Nat} {f:Nat→Value} {rw:Bool} (k j:Nat) (hg:aI n e g=true) (hx:ev n e x= .pointer (some ⟨b,o,none⟩)) (c:L[k]? =some ⟨some b,off,m,f,rw⟩)
   (ho:o=off+j) (s:j+m'≤m) (p:cz P t m'=true) (h:aa P n K l ((i,(Rg.mk (some b) off m f rw).at)::O) (an e d (AG [(m',fun q=>f (j+q))])) w):
   aa P n K (⟨i,true,⟨some d,.load t x,ty,pos,aft,gd⟩,g⟩::l) O e w:=
 aa.held _ hg (a.mem c) (fun w hw=>b8 (by
   rw [hx,ho]
   refine (x_ (f:=fun q=>f (j+q)) p fun q hq=>?_).trans ?_
   · obtain ⟨r,hp,hc⟩:=hw (j+q) (show j+q < m by omega)
     obtain rfl:b=r:=Option.some.inj hp
     rw [Nat.add_assoc];exact hc
   · simp [AG,aS])) h
theorem dR {dst:Option Tmp} {op:Op} (hg:aI n e g=true) (h:g' P (fun v w'=>((∀p∈O,p.2 w→p.2 w')∧aa P n K l O (cv e dst v) w')∨(O.all (fun p=>cF ⟨dst,op,ty,pos,aft,gd⟩ p.1)=true∧aa P n K l [] (cv e dst v) w'))
   ((execOp (ev n e) ⟨dst,op,ty,pos,aft,gd⟩).run P w)):aa P n K (⟨i,false,⟨dst,op,ty,pos,aft,gd⟩,g⟩::l) O e w:=by
 unfold aa
 rw [if_pos hg]
 rw [if_neg (by exact Bool.false_ne_true)]
 exact o3 (fun _ _ hk=>hk.imp id Or.inl) h
theorem nZ {dst:Option Tmp} {op:Op} (hg:aI n e g=true) (h:g' P (fun v w'=>(∀p∈O,cF ⟨dst,op,ty,pos,aft,gd⟩ p.1=false→p.2 w→p.2 w')∧aa P n K l (O.filter fun p=> !cF ⟨dst,op,ty,pos,aft,gd⟩ p.1) (cv e dst v) w')
   ((execOp (ev n e) ⟨dst,op,ty,pos,aft,gd⟩).run P w)):aa P n K (⟨i,false,⟨dst,op,ty,pos,aft,gd⟩,g⟩::l) O e w:=by
 unfold aa
 rw [if_pos hg]
 rw [if_neg (by exact Bool.false_ne_true)]
 exact o3 (fun _ _ hk=>Or.inr (Or.inr hk)) h
theorem AV {t:TypeId} {b o:Nat} {u v:Value} {w:World} (a:bN P t 1=true) (hv:v.oneCell'=true) (hc:w.cell? ⟨b,o,none⟩=some u) (hf:w.frozen? ⟨b,o,none⟩=false):
   (Instr.storeAt t (.pointer (some ⟨b,o,none⟩)) v).run P w= .ok () (w.setCell ⟨b,o,none⟩ v):=by
 have c:v.cells= #[v]:=by cases v <;> first | rfl | cases hv
 have h1:(store (⟨b,o,none⟩:Addr) v).run P w= .ok () (w.setCell ⟨b,o,none⟩ v):=by
   rw [run_store P w _ v _ hv,hc];simp [hf]
 simp only [Instr.storeAt,Instr.sureAddr,Sem.run_bind,Sem.run_pure,Result.andThen_ok,storeVar,et a,c]
 simp [storeCells,Addr.add,h1]
theorem xg (a:St B w0 L w) {t:TypeId} {x y:Operand} {b off j m:Nat} {f:Nat→Value} {v:Value} (k:Nat) (hg:aI n e g=true) (hx:ev n e x= .pointer (some ⟨b,off+j,none⟩)) (hy:ev n e y=v) (o:L[k]? =some ⟨some b,off,m,f,true⟩)
   (c:j < m) (hv:v.oneCell'=true) (r:bN P t 1=true) (hO:O.all (fun p=>cF ⟨none,.store t x y,ty,pos,aft,gd⟩ p.1)=true)
   (h:∀w',St B w0 (L.set k ⟨some b,off,m,an f j v,true⟩) w'→aa P n K l [] e w'):aa P n K (⟨i,false,⟨none,.store t x y,ty,pos,aft,gd⟩,g⟩::l) O e w:=by
 refine dR hg ?_
 have q:=List.mem_of_getElem? o
 obtain ⟨d,hp,hc⟩:=a.at_ _ q j c
 obtain rfl:b=d:=Option.some.inj hp
 obtain ⟨d,hp,z,s⟩:=a.free _ q rfl j c
 obtain rfl:b=d:=Option.some.inj hp
 have u:(execOp (ev n e) ⟨none,.store t x y,ty,pos,aft,gd⟩).run P w= .ok .skip (w.setCell ⟨b,off+j,none⟩ v):=pJ (by
   rw [hx,hy];exact AV r hv hc s)
 rw [u]
 exact .inr ⟨hO,h _ (a.set o c)⟩
theorem Dt (a:St B w0 L w) {t:TypeId} {x y:Operand} {b off m:Nat} {f:Nat→Value} {v:Value} (k:Nat) (hg:aI n e g=true) (hx:ev n e x= .pointer (some ⟨b,off,none⟩)) (hy:ev n e y=v) (c:L[k]? =some ⟨some b,off,m,f,true⟩)
   (d:0 < m) (hv:v.oneCell'=true) (o:bN P t 1=true) (hO:O.all (fun p=>cF ⟨none,.store t x y,ty,pos,aft,gd⟩ p.1)=true)
   (h:∀w',St B w0 (L.set k ⟨some b,off,m,an f 0 v,true⟩) w'→aa P n K l [] e w'):aa P n K (⟨i,false,⟨none,.store t x y,ty,pos,aft,gd⟩,g⟩::l) O e w:=
 xg a k hg (j:=0) (by rw [hx];rfl) hy c d hv o hO h
theorem cr (a:St B w0 L w) {t:TypeId} {x y:Operand} {b off j m s:Nat} {kd:IntKind} {F:Nat→BitVec s} {X:BitVec s} (k:Nat) (hg:aI n e g=true) (hx:ev n e x= .pointer (some ⟨b,off+j,none⟩)) (hy:ev n e y=VU kd X)
   (c:L[k]? =some ⟨some b,off,m,fun q=>VU kd (F q),true⟩)
   (d:j < m) (f:bN P t 1=true) (hO:O.all (fun p=>cF ⟨none,.store t x y,ty,pos,aft,gd⟩ p.1)=true)
   (h:∀w',St B w0 (L.set k ⟨some b,off,m,fun q=>VU kd (an F j X q),true⟩) w'→aa P n K l [] e w'):aa P n K (⟨i,false,⟨none,.store t x y,ty,pos,aft,gd⟩,g⟩::l) O e w:=
 xg a k hg hx hy c d rfl f hO fun w' o=>h w' (by
   have:(fun q=>VU kd (an F j X q))=an (fun q=>VU kd (F q)) j (VU kd X):=by
     funext q;simp only [da];split <;> rfl
   rw [this];exact o)
theorem St.oW (h:St B w0 L w) {k b off m:Nat} {f f':Nat→Value} (a:L[k]? =some ⟨some b,off,m,f,true⟩):
   ∀q,q≤m→St B w0 (L.set k ⟨some b,off,m,fun j=>if j < q then f' j else f j,true⟩) (w.setCells b off ((List.range q).map f'))
 | 0,_=>by
   have:(fun j=>if j < 0 then f' j else f j)=f:=by funext j;simp
   rw [this]
   have h2:L.set k ⟨some b,off,m,f,true⟩=L:=by
     obtain ⟨hk,d⟩:=List.getElem?_eq_some_iff.1 a
     rw [← d];exact List.set_getElem_self hk
   rw [h2]
   exact h
 | q+1,hq=>by
   have c:=St.oW h (f':=f') a q (by omega)
   have hk:k < L.length:=(List.getElem?_eq_some_iff.1 a).1
   have e:(L.set k ⟨some b,off,m,fun j=>if j < q then f' j else f j,true⟩)[k]? =some ⟨some b,off,m,fun j=>if j < q then f' j else f j,true⟩:=by simp [hk]
   have:=c.set (j:=q) (v:=f' q) e (by omega)
   rw [List.set_set] at this
   have g:an (fun j=>if j < q then f' j else f j) q (f' q)=fun j=>if j < q+1 then f' j else f j:=by
     funext j
     simp only [da]
     by_cases h1:j=q
     · subst h1;simp
     · by_cases h2:j < q
       · simp [h1,h2,show j < q+1 by omega]
       · simp [h1,h2,show¬j < q+1 by omega]
   rw [g] at this
   have i:(w.setCells b off ((List.range (q+1)).map f'))=(w.setCells b off ((List.range q).map f')).setCell ⟨b,off+q,none⟩ (f' q):=by
     rw [List.range_succ,List.map_append]
     have:∀(vs:List Value) (o:Nat) (w:World) (v:Value),w.setCells b o (vs ++ [v])=(w.setCells b o vs).setCell ⟨b,o+vs.length,none⟩ v:=by
       intro vs
       induction vs with
       | nil=>intro o w v;simp [World.setCells]
       | cons u vs c=>intro o w v;simp only [List.cons_append,World.setCells];rw [c];simp only [List.length_cons];rw [show o+1+vs.length=o+(vs.length+1) by omega]
     simpa using this ((List.range q).map f') off w (f' q)
   rw [i]
   exact this
theorem aY (d:St B w0 L w) {t:TypeId} {x y:Operand} {b off m:Nat} {f f':Nat→Value} (k:Nat) (hg:aI n e g=true) (hx:ev n e x= .pointer (some ⟨b,off,none⟩)) (hy:ev n e y=AG [(m,f')]) (q:L[k]? =some ⟨some b,off,m,f,true⟩)
   (hv:∀j,j < m→(f' j).oneCell'=true) (a:bN P t m=true) (hO:O.all (fun p=>cF ⟨none,.store t x y,ty,pos,aft,gd⟩ p.1)=true)
   (h:∀w',St B w0 (L.set k ⟨some b,off,m,f',true⟩) w'→aa P n K l [] e w'):aa P n K (⟨i,false,⟨none,.store t x y,ty,pos,aft,gd⟩,g⟩::l) O e w:=by
 refine dR hg ?_
 have r:=List.mem_of_getElem? q
 have s:(P.info? t).map (·.size)=some m:=by
   unfold bN at a
   cases hi:P.info? t with
   | none=>rw [hi] at a;cases a
   | some i=>rw [hi] at a;simp only [beq_iff_eq] at a;simp [a]
 have u:w.there b off m:=fun j c=>by
   obtain ⟨o,hp,hc⟩:=d.at_ _ r j c
   obtain rfl:b=o:=Option.some.inj hp
   obtain ⟨o,hp,D,z⟩:=d.free _ r rfl j c
   obtain rfl:b=o:=Option.some.inj hp
   exact ⟨by rw [hc];rfl,z⟩
 have A:aS [(m,f')]=(List.range m).map f':=by simp [aS]
 have C:(execOp (ev n e) ⟨none,.store t x y,ty,pos,aft,gd⟩).run P w= .ok .skip (w.setCells b off ((List.range m).map f')):=pJ (by
   rw [hx,hy]
   unfold AG
   rw [A]
   refine (run_storeAt_mid w b off t ((List.range m).map f').toArray ?_ ?_ ?_).trans (by simp)
   · simpa using u
   · simpa using s
   · rw [Array.all_eq_true_iff_forall_mem]
     intro v e'
     simp only [List.mem_toArray,List.mem_map,List.mem_range] at e'
     obtain ⟨j,c,rfl⟩:=e'
     exact hv j c)
 rw [C]
 refine .inr ⟨hO,h _ ?_⟩
 exact (d.oW (f':=f') q m (Nat.le_refl _)).qY (fun j c=>by simp [c])
end step
end Go.LW
namespace Go.LW
set_option linter.unusedSimpArgs false
set_option linter.unusedVariables false
set_option linter.unusedSectionVars false
open Go Go.RowKit
def cM (P:Program) (t:TypeId) (ps:List (Nat×(Nat→Value))):Prop:=∃z,(P.info? t).bind (·.zero)=some z∧z.cells=(aS ps).toArray
theorem dr {P:Program} {t:TypeId} {ps:List (Nat×(Nat→Value))} (h:(P.info? t).bind (·.zero)=some (AG ps)):cM P t ps:=⟨_,h,rfl⟩
theorem h6 {P:Program} {t:TypeId} {z:Value} (h:(P.info? t).bind (·.zero)=some z) (w:World):(zeroValue t).run P w= .ok z w:=by
 cases hi:P.info? t with
 | none=>rw [hi] at h;cases h
 | some i=>
   rw [hi] at h
   have a:i.zero=some z:=h
   simp [zeroValue,typeInfo,hi,a]
section step
variable {P:Program} {n:Nat} {K:aW→Env→World→Prop} {l:List It} {O:aW} {e:Env} {w:World} {i ty:Nat} {d:Tmp} {pos:String} {aft:Array Edge} {gd g:Option (Nat×Bool)}
variable {B:Nat} {w0:aC} {L:List Rg}
theorem dF.app {L L':List Rg} {b o:Nat} {ps:List (Nat×(Nat→Value))} (h:dF L b o ps) (M:List Rg) (a:L'=M ++L):dF L' b o ps:=by
 induction h with
 | nil=>exact .nil
 | cons i h t c=>exact .cons (M.length+i) (by rw [a];rw [List.getElem?_append_right (by omega)];simpa using h) c
theorem ae.app {O:aW} {L L':List Rg} (h:ae O L) (M:List Rg) (a:L'=M ++L):ae O L':=by
 induction h with
 | nil=>exact .nil
 | cons i h t b=>exact .cons (M.length+i) (by rw [a];rw [List.getElem?_append_right (by omega)];simpa using h) (b a)
 | nh t b=>exact .nh (b a)
 | parts h t b=>exact .parts (h.app M a) (b a)
theorem aa.alloc (a:St B w0 L w) {t:TypeId} {ps:List (Nat×(Nat→Value))} (hg:aI n e g=true) (f:cM P t ps) (hO:ae O L)
   (h:∀b w',B≤b→St B w0 (ao b 0 ps ++L) w'→aa P n K l O (an e d (.pointer (some ⟨b,0,none⟩))) w'):
   aa P n K (⟨i,false,⟨some d,.alloc t,ty,pos,aft,gd⟩,g⟩::l) O e w:=by
 refine dR hg ?_
 obtain ⟨z,j,k⟩:=f
 have m:(execOp (ev n e) ⟨some d,.alloc t,ty,pos,aft,gd⟩).run P w= .ok (.value (.pointer (some ⟨w.heap.size,0,none⟩))) (w.alloc (.cells (aS ps).toArray t)):=b8 (by
   simp only [Instr.alloc,Sem.run_bind,h6 j,Result.andThen,newVar,newRow,newObj,k]
   rfl)
 rw [m]
 have c:=a.alloc ps t
 exact .inl ⟨(hO.app _ rfl).keep c,h _ _ a.base c⟩
theorem bp (a:St B w0 L w) {t:TypeId} {x:Operand} {ps:List (Nat×(Nat→Value))} (hg:aI n e g=true) (hx:ev n e x=AG ps) (hO:ae O L)
   (h:∀b w',B≤b→St B w0 (ao b 0 ps ++L) w'→aa P n K l O (an e d (.pointer (some ⟨b,0,none⟩))) w'):
   aa P n K (⟨i,false,⟨some d,.box t x,ty,pos,aft,gd⟩,g⟩::l) O e w:=by
 refine dR hg ?_
 have f:(execOp (ev n e) ⟨some d,.box t x,ty,pos,aft,gd⟩).run P w= .ok (.value (.pointer (some ⟨w.heap.size,0,none⟩))) (w.alloc (.cells (aS ps).toArray t)):=b8 (by
   rw [hx];rfl)
 rw [f]
 have c:=a.alloc ps t
 exact .inl ⟨(hO.app _ rfl).keep c,h _ _ a.base c⟩
theorem aa.nilCheck {x:Operand} {a:Addr} (hg:aI n e g=true) (hx:ev n e x= .pointer (some a)) (h:aa P n K l O (an e d (.pointer (some a))) w):
   aa P n K (⟨i,true,⟨some d,.nilCheck x,ty,pos,aft,gd⟩,g⟩::l) O e w:=
 aa.val hg (fun w=>by simp [execOp,hx,pure]) h
def bC (P:Program) (t:TypeId) (f off:Nat):Bool:=match P.underlying t with
 | some (.struct fs)=>match fs[f]? with
   | some fd=>fd.offset==off && (match P.info? fd.type with | some i=> !(i.size==0) | none=>false)
   | none=>false
 | _=>false
theorem DJ {t:TypeId} {f off:Nat} {b o:Nat} {w:World} (hf:bC P t f off=true):(Instr.fieldAt t (.pointer (some ⟨b,o,none⟩)) f).run P w= .ok (.pointer (some ⟨b,o+off,none⟩)) w:=by
 unfold bC at hf
 cases hu:P.underlying t with
 | none=>rw [hu] at hf;cases hf
 | some c=>
   rw [hu] at hf
   cases c <;> try (cases hf;done)
   rename_i fs
   simp only at hf
   cases a:fs[f]? with
   | none=>rw [a] at hf;cases hf
   | some fd=>
     rw [a] at hf
     simp only [Bool.and_eq_true,beq_iff_eq] at hf
     obtain ⟨h1,h2⟩:=hf
     cases hi:P.info? fd.type with
     | none=>rw [hi] at h2;cases h2
     | some inf=>
       rw [hi] at h2
       have h3:¬inf.size=0:=by simpa using h2
       simp only [Instr.fieldAt,Sem.run_bind,run_underlying hu w,Result.andThen,a,Instr.sureAddr,Sem.run_pure,fieldPlace]
       simp only [sizeOf,typeInfo,Sem.run_bind,run_program,Result.andThen,hi,Sem.run_pure,h3,if_false,← h1]
       simp only [Addr.add]
       split
       · rename_i d;simp [d]
       · rfl
theorem aa.fieldAddr {t:TypeId} {x:Operand} {b o f:Nat} (off:Nat) (hf:bC P t f off=true) (hg:aI n e g=true) (hx:ev n e x= .pointer (some ⟨b,o,none⟩))
   (h:aa P n K l O (an e d (.pointer (some ⟨b,o+off,none⟩))) w):aa P n K (⟨i,true,⟨some d,.fieldAddr t x f,ty,pos,aft,gd⟩,g⟩::l) O e w:=
 aa.val hg (fun w=>b8 (by rw [hx];exact DJ hf)) h
theorem bm {t:TypeId} {x:Operand} {b o f:Nat} (hf:bC P t f 0=true) (hg:aI n e g=true) (hx:ev n e x= .pointer (some ⟨b,o,none⟩))
   (h:aa P n K l O (an e d (.pointer (some ⟨b,o,none⟩))) w):aa P n K (⟨i,true,⟨some d,.fieldAddr t x f,ty,pos,aft,gd⟩,g⟩::l) O e w:=
 aa.fieldAddr 0 hf hg hx h
def du (P:Program) (t:TypeId) (len sz:Nat):Bool:=match P.underlying t with
 | some (.array k el)=>k==len && bN P el sz
 | _=>false
def dc (P:Program) (t:TypeId) (sz:Nat):Bool:=match P.underlying t with
 | some (.slice el)=>bN P el sz
 | _=>false
theorem rE {t:TypeId} {len sz:Nat} (h:du P t len sz=true):∃el,P.underlying t=some (.array len el)∧bN P el sz=true:=by
 unfold du at h
 cases hu:P.underlying t with
 | none=>rw [hu] at h;cases h
 | some a=>
   rw [hu] at h
   cases a <;> try (cases h;done)
   simp only [Bool.and_eq_true,beq_iff_eq] at h
   exact ⟨_,by rw [h.1],h.2⟩
theorem j4 {t:TypeId} {sz:Nat} (h:dc P t sz=true):∃el,P.underlying t=some (.slice el)∧bN P el sz=true:=by
 unfold dc at h
 cases hu:P.underlying t with
 | none=>rw [hu] at h;cases h
 | some a=>
   rw [hu] at h
   cases a <;> try (cases h;done)
   exact ⟨_,rfl,h⟩
theorem s_ (b o k:Nat):(⟨b,o,none⟩:Addr).add k=⟨b,o+k,none⟩:=Addr.add_mid b o k
theorem ud {t:TypeId} {x y:Operand} {b o j len sz:Nat} {k:IntKind} (ha:du P t len sz=true) (hg:aI n e g=true) (hx:ev n e x= .pointer (some ⟨b,o,none⟩)) (hy:ev n e y= .int k (j:Int)) (a:j < len)
   (h:aa P n K l O (an e d (.pointer (some ⟨b,o+j*sz,none⟩))) w):aa P n K (⟨i,true,⟨some d,.indexAddr t x y,ty,pos,aft,gd⟩,g⟩::l) O e w:=
 aa.val hg (fun w=>b8 (by
   obtain ⟨el,hu,hs⟩:=rE ha
   rw [hx,hy]
   have hc:(0:Int)≤(j:Int)∧(j:Int) < (len:Int):=by omega
   simp only [Instr.indexAt,asIntOf,Sem.run_bind,Sem.run_pure,Result.andThen,run_underlying hu w,Instr.sureAddr,if_pos hc,et hs,Int.toNat_natCast,s_])) h
theorem a1 {t:TypeId} {x y:Operand} {b o j len:Nat} {k:IntKind} (ha:du P t len 1=true) (hg:aI n e g=true) (hx:ev n e x= .pointer (some ⟨b,o,none⟩)) (hy:ev n e y= .int k (j:Int)) (a:j < len)
   (h:aa P n K l O (an e d (.pointer (some ⟨b,o+j,none⟩))) w):aa P n K (⟨i,true,⟨some d,.indexAddr t x y,ty,pos,aft,gd⟩,g⟩::l) O e w:=
 ud ha hg hx hy a (by rw [Nat.mul_one];exact h)
theorem uy {t:TypeId} {x y:Operand} {b o j len cap sz:Nat} {k:IntKind} (ha:dc P t sz=true) (hg:aI n e g=true) (hx:ev n e x= .slice (some ⟨b,o,none⟩) len cap) (hy:ev n e y= .int k (j:Int)) (a:j < len)
   (h:aa P n K l O (an e d (.pointer (some ⟨b,o+j*sz,none⟩))) w):aa P n K (⟨i,true,⟨some d,.indexAddr t x y,ty,pos,aft,gd⟩,g⟩::l) O e w:=
 aa.val hg (fun w=>b8 (by
   obtain ⟨el,hu,hs⟩:=j4 ha
   rw [hx,hy]
   have hc:(0:Int)≤(j:Int)∧(j:Int) < (len:Int):=by omega
   simp only [Instr.indexAt,asIntOf,Sem.run_bind,Sem.run_pure,Result.andThen,run_underlying hu w,if_pos hc,et hs,Int.toNat_natCast,s_])) h
theorem u9 {t:TypeId} {x y:Operand} {b o j len cap:Nat} {k:IntKind} (ha:dc P t 1=true) (hg:aI n e g=true) (hx:ev n e x= .slice (some ⟨b,o,none⟩) len cap) (hy:ev n e y= .int k (j:Int)) (a:j < len)
   (h:aa P n K l O (an e d (.pointer (some ⟨b,o+j,none⟩))) w):aa P n K (⟨i,true,⟨some d,.indexAddr t x y,ty,pos,aft,gd⟩,g⟩::l) O e w:=
 uy ha hg hx hy a (by rw [Nat.mul_one];exact h)
theorem xj {f:FuncId} {ρ:Operand→Value} {args:Array Operand} {at':Array TypeId} {dst:Option Tmp} (a:bc P f=true) (w:World):
   (execOp ρ ⟨dst,.call ⟨.value (.func f),args,at'⟩,ty,pos,aft,gd⟩).run P w= .ok (.enter f (args.map ρ)) w∨ρ (.func f)≠ .func (.func f) #[] #[]:=by
 by_cases b:ρ (.func f)= .func (.func f) #[] #[]
 · refine .inl ?_
   unfold bc at a
   cases hf:P.funcs[f]? with
   | none=>rw [hf] at a;cases a
   | some fn=>
     rw [hf] at a
     simp only [Bool.and_eq_true,Bool.not_eq_true'] at a
     simp only [execOp,resolve,b,Deferred.ofValue,Sem.run_bind,Sem.run_pure,Result.andThen,invoke,callFunc,run_program,hf,a.1,a.2,Bool.false_eq_true,if_false]
     simp
 · exact .inr b
theorem aa.call {f:FuncId} {args:Array Operand} {at':Array TypeId} {dst:Option Tmp} {vs:List Value} {R:Ending→World→Prop} (hg:aI n e g=true) (b:bc P f=true) (c:args.toList.map (ev n e)=vs)
   (hc:Calls P f vs.toArray w R)
   (d:∀x w',R x w'→∃v,x= .returned v∧(((∀p∈O,p.2 w→p.2 w')∧aa P n K l O (cv e dst v) w')∨(O.all (fun p=>cF ⟨dst,.call ⟨.value (.func f),args,at'⟩,ty,pos,aft,gd⟩ p.1)=true∧aa P n K l [] (cv e dst v) w'))):
   aa P n K (⟨i,false,⟨dst,.call ⟨.value (.func f),args,at'⟩,ty,pos,aft,gd⟩,g⟩::l) O e w:=by
 refine dR hg ?_
 rcases xj (P:=P) (ty:=ty) (pos:=pos) (aft:=aft) (gd:=gd) (ρ:=ev n e) (args:=args) (at':=at') (dst:=dst) b w with a | a
 · rw [a]
   show Calls P f (args.map (ev n e)) w _
   have:args.map (ev n e)=vs.toArray:=by
     rw [← c,← Array.toList_map]
   rw [this]
   exact hc.mono d
 · exact absurd rfl a
theorem aa.extract {x:Operand} {k:Nat} {vs:Array Value} {v:Value} (hg:aI n e g=true) (hx:ev n e x= .tuple vs) (hv:vs[k]? =some v) (h:aa P n K l O (an e d v) w):
   aa P n K (⟨i,true,⟨some d,.extract x k,ty,pos,aft,gd⟩,g⟩::l) O e w:=
 aa.val hg (fun w=>b8 (by rw [hx];simp [Instr.extract,hv])) h
end step
def ax (P:Program) (n:Nat) (fn:Func) (R:Ending→World→Prop) (e:Env) (w:World):Prop:=∃v,(results fn (act n e).tmps).run P w= .ok v w∧R (.returned v) w
def rN (P:Program) (n:Nat) (fn:Func) (R:Ending→World→Prop):Exit→Env→World→Prop
 | .normal,e,w=>ax P n fn R e w
 | .ret,e,w=>ax P n fn R e w
 | _,_,_=>False
theorem W.enter {P:Program} {f:FuncId} {fn:Func} {c:Code} {args:Array Value} {w:World} {R:Ending→World→Prop} (n:Nat) (hf:P.funcs[f]? =some fn) (hb:fn.body=some c) (b:fn.ntmps=n) (ha:Nat.ble args.size n=true)
   (h:W P n c (rN P n fn R) (fun i=>args.getD i undef) w):Calls P f args w R:=by
 refine calls_of_wp hf hb ?_
 rw [b,EF n args (by simpa using ha)]
 refine wp_mono h fun x a w hq=>?_
 cases x with
 | normal=>obtain ⟨e,rfl,v,h1,h2⟩:=hq;exact ⟨rfl,v,h1,h2⟩
 | ret=>obtain ⟨e,rfl,v,h1,h2⟩:=hq;exact ⟨rfl,v,h1,h2⟩
 | exit id=>obtain ⟨e,_,h⟩:=hq;exact h.elim
 | goto l=>obtain ⟨e,_,h⟩:=hq;exact h.elim
 | panic ch=>exact hq.elim
 | outgrown=>exact hq.elim
section exits
variable {P:Program} {n:Nat} {fn:Func} {Rf:Ending→World→Prop} {K:Env→World→Prop} {R:Exit→Env→World→Prop} {e:Env} {w:World} {id lF:Nat}
theorem aB (h:ax P n fn Rf e w):rN P n fn Rf .ret e w:=h
theorem lX (h:ax P n fn Rf e w):rN P n fn Rf .normal e w:=h
theorem a' (h:R .ret e w):ef K R .ret e w:=h
theorem bM (h:R (.exit id) e w):ef K R (.exit id) e w:=h
theorem dD (h:R .ret e w):lG id R .ret e w:=h
theorem bo (h:R .normal e w):lG id R .normal e w:=h
theorem bL (h:R .normal e w):lG id R (.exit id) e w:=by
 show (if id=id then R .normal e w else R (.exit id) e w)
 rw [if_pos rfl];exact h
end exits
inductive dj (P:Program) (n:Nat) (e:Env) (w:World):List ResultVar→List Value→Prop
 | nil:dj P n e w [] []
 | tmp {t:Tmp} {v:Value} {rs:List ResultVar} {vs:List Value} (h:ev n e (.tmp t)=v) (r:dj P n e w rs vs):dj P n e w (.tmp t::rs) (v::vs)
 | cell {p:Tmp} {t:TypeId} {a:Addr} {v:Value} {rs:List ResultVar} {vs:List Value} (h:ev n e (.tmp p)= .pointer (some a)) (hv:(Instr.loadAt t (.pointer (some a))).run P w= .ok v w) (r:dj P n e w rs vs):dj P n e w (.cell p t::rs) (v::vs)
def r2:List Value→Value
 | [v]=>v
 | vs=> .tuple vs.toArray
def qo (tmps:Array Value):ResultVar→Sem Value
 | .tmp t=>pure (tmps.getD t undef)
 | .cell a t=>do loadVar t (← asAddr (tmps.getD a undef))
theorem A2 (fn:Func) (tmps:Array Value):results fn tmps=(do let vs ← fn.results.mapM (qo tmps);pure (if h:vs.size=1 then vs[0] else .tuple vs)):=by
 unfold results
 congr 1
theorem DI {P:Program} {n:Nat} {e:Env} {w:World} {fn:Func} {vs:List Value} (h:dj P n e w fn.results.toList vs):(results fn (act n e).tmps).run P w= .ok (r2 vs) w:=by
 have key:∀(rs:List ResultVar) (vs:List Value),dj P n e w rs vs→(rs.mapM (qo (act n e).tmps)).run P w=Result.ok vs w:=by
   intro rs vs c
   induction c with
   | nil=>rfl
   | @tmp t v rs vs h r b=>
     have h1:(act n e).tmps.getD t undef=v:=by rw [← h,← iS];rfl
     rw [List.mapM_cons]
     simp only [Sem.run_bind,qo,h1,Sem.run_pure,Result.andThen,b]
   | @cell p t a v rs vs h hv r b=>
     have h1:(act n e).tmps.getD p undef= .pointer (some a):=by rw [← h,← iS];rfl
     have h2:(loadVar t a).run P w= .ok v w:=by simpa [Instr.loadAt,Instr.sureAddr] using hv
     have h3:(qo (act n e).tmps (.cell p t)).run P w=Result.ok v w:=by
       show (do loadVar t (← asAddr ((act n e).tmps.getD p undef)):Sem Value).run P w=_
       rw [h1]
       exact h2
     rw [List.mapM_cons]
     simp only [Sem.run_bind,h3,Sem.run_pure,Result.andThen,b]
 rw [A2,Array.mapM_eq_mapM_toList,Sem.run_bind,Sem.run_map,key _ _ h]
 simp only [Result.andThen]
 match vs with
 | []=>rfl
 | [v]=>rfl
 | u::v::r=>simp [r2]
theorem ax.mk {P:Program} {n:Nat} {fn:Func} {R:Ending→World→Prop} {e:Env} {w:World} {vs:List Value} (h:dj P n e w fn.results.toList vs) (a:R (.returned (r2 vs)) w):ax P n fn R e w:=
 ⟨_,DI h,a⟩
theorem dj.agg {P:Program} {n:Nat} {e:Env} {w:World} {B:Nat} {w0:aC} {L:List Rg} (a:St B w0 L w) {p:Tmp} {t:TypeId} {b o:Nat} {ps:List (Nat×(Nat→Value))} {rs:List ResultVar} {vs:List Value} (h:ev n e (.tmp p)= .pointer (some ⟨b,o,none⟩))
   (c:dF L b o ps) (d:cz P t (ps.map (·.1)).sum=true) (r:dj P n e w rs vs):dj P n e w (.cell p t::rs) (AG ps::vs):=
 .cell h (by
   obtain ⟨f,hu,g,hi⟩:=n0 d
   exact run_loadAt_mid w b o t (aS ps) f (c.cells a) hu g (by rw [fj];exact hi)) r
end Go.LW
namespace Go.LW
set_option linter.unusedSimpArgs false
set_option linter.unusedVariables false
set_option linter.unusedSectionVars false
open Go Go.RowKit
def q' (e:Env):List (Nat×Value)→Env
 | []=>e
 | (s,v)::r=>an (q' e r) s v
inductive aU (e:Env):List (Nat×Value)→Prop
 | nil:aU e []
 | cons {s:Nat} {v:Value} {r:List (Nat×Value)} (h:e s=v) (t:aU e r):aU e ((s,v)::r)
theorem aU.open {e:Env} {r:List (Nat×Value)} (h:aU e r):∃a,e=q' a r:=by
 refine ⟨e,?_⟩
 induction h with
 | nil=>rfl
 | @cons s v r h t b=>
   funext i
   show e i=an (q' e r) s v i
   rw [da,← b]
   split
   · rename_i hi;rw [hi];exact h
   · rfl
section res
variable {P:Program} {n:Nat} {e:Env} {w:World} {rs:List ResultVar} {vs:List Value} {t:Tmp}
theorem dj.bj {k:IntKind} {a:Int} (h:ev n e (.tmp t)= .int k a) (r:dj P n e w rs vs):dj P n e w (.tmp t::rs) (.int k a::vs):= .tmp h r
theorem dj.b2 {b:Bool} (h:ev n e (.tmp t)= .bool b) (r:dj P n e w rs vs):dj P n e w (.tmp t::rs) (.bool b::vs):= .tmp h r
theorem dj.fk {a:Option Addr} (h:ev n e (.tmp t)= .pointer a) (r:dj P n e w rs vs):dj P n e w (.tmp t::rs) (.pointer a::vs):= .tmp h r
theorem dj.bD {p:Option Addr} {a c:Nat} (h:ev n e (.tmp t)= .slice p a c) (r:dj P n e w rs vs):dj P n e w (.tmp t::rs) (.slice p a c::vs):= .tmp h r
theorem dj.one {B:Nat} {w0:aC} {L:List Rg} (a:St B w0 L w) {p:Tmp} {t:TypeId} {b o m:Nat} {f:Nat→Value} {rw:Bool} (h:ev n e (.tmp p)= .pointer (some ⟨b,o,none⟩)) (k:Nat) (c:L[k]? =some ⟨some b,o,m,f,rw⟩) (d:0 < m) (g:dC P t=true)
   (r:dj P n e w rs vs):dj P n e w (.cell p t::rs) (f 0::vs):=
 .cell h (by
   obtain ⟨i,hp,hc⟩:=a.mem c 0 d
   obtain rfl:b=i:=Option.some.inj hp
   exact yr g hc) r
end res
section step
variable {P:Program} {n:Nat} {K:aW→Env→World→Prop} {l:List It} {O:aW} {e:Env} {w:World} {i ty:Nat} {d:Tmp} {pos:String} {aft:Array Edge} {gd g:Option (Nat×Bool)}
theorem b' {x:Operand} {k:Nat} {vs:Array Value} {kd:IntKind} {a:Int} (hg:aI n e g=true) (hx:ev n e x= .tuple vs) (hv:vs[k]? =some (.int kd a)) (h:aa P n K l O (an e d (.int kd a)) w):
   aa P n K (⟨i,true,⟨some d,.extract x k,ty,pos,aft,gd⟩,g⟩::l) O e w:=aa.extract hg hx hv h
theorem gb {x:Operand} {k:Nat} {vs:Array Value} {b:Bool} (hg:aI n e g=true) (hx:ev n e x= .tuple vs) (hv:vs[k]? =some (.bool b)) (h:aa P n K l O (an e d (.bool b)) w):
   aa P n K (⟨i,true,⟨some d,.extract x k,ty,pos,aft,gd⟩,g⟩::l) O e w:=aa.extract hg hx hv h
theorem hI {x:Operand} {k:Nat} {vs:Array Value} {a:Option Addr} (hg:aI n e g=true) (hx:ev n e x= .tuple vs) (hv:vs[k]? =some (.pointer a)) (h:aa P n K l O (an e d (.pointer a)) w):
   aa P n K (⟨i,true,⟨some d,.extract x k,ty,pos,aft,gd⟩,g⟩::l) O e w:=aa.extract hg hx hv h
theorem dh {x:Operand} {k:Nat} {vs:Array Value} {p:Option Addr} {a c:Nat} (hg:aI n e g=true) (hx:ev n e x= .tuple vs) (hv:vs[k]? =some (.slice p a c)) (h:aa P n K l O (an e d (.slice p a c)) w):
   aa P n K (⟨i,true,⟨some d,.extract x k,ty,pos,aft,gd⟩,g⟩::l) O e w:=aa.extract hg hx hv h
theorem b5 {x:Operand} {k:Nat} {vs:Array Value} {s:Array Value} (hg:aI n e g=true) (hx:ev n e x= .tuple vs) (hv:vs[k]? =some (.agg s)) (h:aa P n K l O (an e d (.agg s)) w):
   aa P n K (⟨i,true,⟨some d,.extract x k,ty,pos,aft,gd⟩,g⟩::l) O e w:=aa.extract hg hx hv h
theorem aP {B:Nat} {w0:aC} {L:List Rg} (a:St B w0 L w) {t:TypeId} {x:Operand} {b o m:Nat} {f:Nat→Value} {rw:Bool} (k:Nat) (hg:aI n e g=true) (hx:ev n e x= .pointer (some ⟨b,o,none⟩)) (c:L[k]? =some ⟨some b,o,m,f,rw⟩)
   (j:cz P t m=true) (h:aa P n K l ((i,(Rg.mk (some b) o m f rw).at)::O) (an e d (AG [(m,f)])) w):
   aa P n K (⟨i,true,⟨some d,.load t x,ty,pos,aft,gd⟩,g⟩::l) O e w:=
 aa.held _ hg (a.mem c) (fun w hw=>b8 (by
   rw [hx]
   refine (x_ (f:=f) j fun q hq=>?_).trans ?_
   · obtain ⟨p,hp,hc⟩:=hw q hq
     obtain rfl:b=p:=Option.some.inj hp
     exact hc
   · simp [AG,aS])) h
theorem wB {b:Builtin} {x:Operand} {ρ:Operand→Value} {t ty:TypeId} {v:Value} {dst:Option Tmp} {w:World}
   (h:∀cs,(builtin b #[t] ty cs #[ρ x]).run P w= .ok (.value v) w):(execOp ρ ⟨dst,.call ⟨.builtin b,#[x],#[t]⟩,ty,pos,aft,gd⟩).run P w= .ok (.value v) w:=by
 have a:Array.map ρ #[x]= #[ρ x]:=by simp
 simp only [execOp,resolve,Sem.run_bind,Sem.run_pure,Result.andThen,invoke,a]
 exact h _
theorem aa.len {x:Operand} {t:TypeId} {p:Option Addr} {a c:Nat} (b:∃el,P.underlying t=some (.slice el)) (hg:aI n e g=true) (hx:ev n e x= .slice p a c)
   (h:aa P n K l O (an e d (VN a)) w):aa P n K (⟨i,true,⟨some d,.call ⟨.builtin .len,#[x],#[t]⟩,ty,pos,aft,gd⟩,g⟩::l) O e w:=
 aa.val hg (fun w=>wB (fun cs=>by
   obtain ⟨el,hu⟩:=b
   rw [hx]
   simp only [builtin,Sem.run_bind]
   have:(Builtin.len_ #[t] ty #[.slice p a c]).run P w= .ok (goInt a) w:=by simp [Builtin.len_,run_underlying hu]
   rw [this];rfl)) h
theorem Cd (m:Nat) (f:Nat→Value) (j:Nat) (a:j < m):(aS [(m,f)]).toArray[j]? =some (f j):=by
 simp [aS,a]
theorem rz {x y:Operand} {t:TypeId} {len m j:Nat} {f:Nat→Value} {k:IntKind} {el:TypeId} (hu:P.underlying t=some (.array len el)) (hs:bN P el 1=true) (a:dC P el=true) (hg:aI n e g=true)
   (hx:ev n e x=AG [(m,f)]) (hy:ev n e y= .int k (j:Int)) (o:j < len) (hm:len≤m) (h:aa P n K l O (an e d (f j)) w):aa P n K (⟨i,true,⟨some d,.index t x y,ty,pos,aft,gd⟩,g⟩::l) O e w:=
 aa.val hg (fun w=>b8 (by
   rw [hx,hy]
   have hc:(0:Int)≤(j:Int)∧(j:Int) < (len:Int):=by omega
   have b:(isAgg el).run P w= .ok false w:=by
     unfold dC at a
     unfold isAgg
     cases hu:P.underlying el with
     | none=>rw [hu] at a;cases a
     | some c=>
       rw [Sem.run_bind,run_underlying hu w]
       rw [hu] at a
       cases c <;> first | rfl | cases a
   simp only [AG,Instr.index,asIntOf,Sem.run_bind,Sem.run_pure,Result.andThen,run_underlying hu w,if_pos hc,et hs,Int.toNat_natCast,part,b,Nat.mul_one,Cd m f j (by omega),Bool.false_eq_true,if_false])) h
def jQ:List Value→Nat→List Value→List Value
 | cs,_,[]=>cs
 | cs,o,v::r=>jQ (cs.set o v) (o+1) r
def fD:Value→List Value
 | .agg cs=>cs.toList
 | v=> [v]
def eF (place:Nat→Option (Nat×Nat)):List Value→List (Nat×Value)→Option (List Value)
 | cs,[]=>some cs
 | cs,(i,v)::r=>match place i with
   | none=>none
   | some (o,sz)=>cond (Nat.beq (fD v).length sz && Nat.ble (o+sz) cs.length) (eF place (jQ cs o (fD v)) r) none
theorem Es (v:Value):v.cells=(fD v).toArray:=by cases v <;> simp [Value.cells,fD]
theorem y9 (vs:List Value):∀(cs:List Value) (o k:Nat),(vs.zipIdx k).foldl (fun (a:Array Value) (p:Value×Nat)=>a.setIfInBounds (o+p.2) p.1) cs.toArray=(jQ cs (o+k) vs).toArray:=by
 induction vs with
 | nil=>intro cs o k;rfl
 | cons v vs b=>
   intro cs o k
   rw [List.zipIdx_cons,List.foldl_cons]
   simp only [List.setIfInBounds_toArray]
   rw [b]
   simp only [jQ]
   rw [Nat.add_assoc]
theorem kR {place:Nat→Option (Nat×Nat)}:∀(vs:List (Nat×Value)) (cs rs:List Value),eF place cs vs=some rs→Instr.fill place cs.toArray vs=some rs.toArray
 | [],cs,rs,h=>by
   simp only [eF,Option.some.injEq] at h
   subst h;rfl
 | (i,v)::r,cs,rs,h=>by
   unfold eF at h
   unfold Instr.fill
   cases hp:place i with
   | none=>rw [hp] at h;cases h
   | some b=>
     obtain ⟨o,sz⟩:=b
     rw [hp] at h
     simp only at h ⊢
     cases hc:(Nat.beq (fD v).length sz && Nat.ble (o+sz) cs.length) with
     | false=>rw [hc] at h;cases h
     | true=>
       rw [hc] at h
       simp only [Bool.and_eq_true] at hc
       have h1:=Nat.eq_of_beq_eq_true hc.1
       have h2:=Nat.le_of_ble_eq_true hc.2
       rw [Es]
       have h3:¬((fD v).toArray.size≠sz∨o+(fD v).toArray.size > cs.toArray.size):=by
         simp only [List.size_toArray];omega
       rw [if_neg (by simpa using h3)]
       have c:((fD v).toArray.zipIdx.foldl (fun (cs:Array Value) (p:Value×Nat)=>cs.setIfInBounds (o+p.2) p.1) cs.toArray)=(jQ cs o (fD v)).toArray:=by
         have:=y9 (fD v) cs o 0
         simpa using this
       exact (congrArg (fun a=>Instr.fill place a r) c).trans (kR r _ rs h)
theorem gu {t:TypeId} {parts:Array (Nat×Operand)} {len sz:Nat} {zps ps:List (Nat×(Nat→Value))} {vs:List (Nat×Value)} (ha:du P t len sz=true) (a:cM P t zps) (hg:aI n e g=true)
   (hv:parts.toList.map (fun p=>(p.1,ev n e p.2))=vs) (b:eF (fun i=>some (i*sz,sz)) (aS zps) vs=some (aS ps))
   (h:aa P n K l O (an e d (AG ps)) w):aa P n K (⟨i,true,⟨some d,.build t parts,ty,pos,aft,gd⟩,g⟩::l) O e w:=
 aa.val hg (fun w=>b8 (by
   have hf:=kR _ _ _ b
   obtain ⟨el,hu,hs⟩:=rE ha
   obtain ⟨z,c,f⟩:=a
   have j:(parts.map fun (i,x)=>(i,ev n e x)).toList=vs:=by rw [← hv];simp
   simp only [Instr.build,Sem.run_bind,h6 c,Result.andThen,run_underlying hu w,et hs,f,j,hf]
   rfl)) h
def e2 (P:Program) (t:TypeId) (pl:List (Nat×Nat)):Bool:=match P.underlying t with
 | some (.struct fs)=>fs.toList.map (fun f=>(f.offset,match P.info? f.type with | some i=>i.size | none=>1000000007))==pl
 | _=>false
theorem wc {t:TypeId} {parts:Array (Nat×Operand)} {pl:List (Nat×Nat)} {zps ps:List (Nat×(Nat→Value))} {vs:List (Nat×Value)} (ha:e2 P t pl=true) (b:pl.all (fun q=>q.2 < 1000000)=true) (c:cM P t zps) (hg:aI n e g=true)
   (hv:parts.toList.map (fun p=>(p.1,ev n e p.2))=vs) (j:eF (fun i=>pl[i]?) (aS zps) vs=some (aS ps))
   (h:aa P n K l O (an e d (AG ps)) w):aa P n K (⟨i,true,⟨some d,.build t parts,ty,pos,aft,gd⟩,g⟩::l) O e w:=
 aa.val hg (fun w=>b8 (by
   have hf:=kR _ _ _ j
   obtain ⟨z,k,m⟩:=c
   have o:(parts.map fun (i,x)=>(i,ev n e x)).toList=vs:=by rw [← hv];simp
   unfold e2 at ha
   cases hu:P.underlying t with
   | none=>rw [hu] at ha;cases ha
   | some r=>
     rw [hu] at ha
     cases r <;> try (cases ha;done)
     rename_i fs
     simp only [beq_iff_eq] at ha
     have key:(fs.mapM fun f=>do pure (f.offset,← sizeOf f.type):Sem (Array (Nat×Nat))).run P w=Result.ok pl.toArray w:=by
       rw [Array.mapM_eq_mapM_toList,Sem.run_map]
       have:∀(l:List Field) (pl:List (Nat×Nat)),l.map (fun f=>(f.offset,match P.info? f.type with | some i=>i.size | none=>1000000007))=pl→pl.all (fun q=>q.2 < 1000000)=true→
           (l.mapM fun f=>do pure (f.offset,← sizeOf f.type):Sem (List (Nat×Nat))).run P w=Result.ok pl w:=by
         intro l
         induction l with
         | nil=>intro pl h _;subst h;rfl
         | cons f l s=>
           intro pl h a
           subst h
           simp only [List.map_cons,List.all_cons,Bool.and_eq_true,decide_eq_true_eq] at a
           rw [List.mapM_cons]
           have u:(sizeOf f.type).run P w= .ok (match P.info? f.type with | some i=>i.size | none=>1000000007) w:=by
             cases hi:P.info? f.type with
             | none=>rw [hi] at a;simp at a
             | some inf=>simp [sizeOf,typeInfo,hi]
           simp only [Sem.run_bind,u,Result.andThen,Sem.run_pure,s _ rfl a.2,List.map_cons]
       rw [this fs.toList pl ha b]
       rfl
     simp only [Instr.build,Sem.run_bind,h6 k,Result.andThen,run_underlying hu w,key,m,o]
     have h2:(fun x:Nat=>pl.toArray[x]?)=fun i:Nat=>pl[i]? :=by funext i;simp
     rw [h2,hf]
     rfl)) h
end step
end Go.LW
namespace Go.LW
set_option linter.unusedSimpArgs false
set_option linter.unusedVariables false
set_option linter.unusedSectionVars false
open Go Go.RowKit
def ee (aft:Array Edge) (i:Nat):Bool:=aft.toList.any fun e=>Region.binds .any e && Nat.beq e.on i
inductive av (aft:Array Edge) (O:aW) (L':List Rg):aW→Prop
 | keep (h:ae O L'):av aft O L' O
 | wait (h:O.all (fun p=>ee aft p.1)=true):av aft O L' []
 | mix (O':aW) (h:O.filter (fun p=> !ee aft p.1)=O') (hp:ae O' L'):av aft O L' O'
theorem ae.mix {aft:Array Edge} {O O':aW} {L':List Rg} (h:O.filter (fun p=> !ee aft p.1)=O') (hp:ae O' L') {B:Nat} {w0:aC} {w w':World} (a:St B w0 L' w'):∀p∈O,ee aft p.1=false→p.2 w→p.2 w':=fun p hm hw=>
 hp.keep a p (by rw [← h];exact List.mem_filter.2 ⟨hm,by rw [hw];rfl⟩)
def pick (is:List Nat) (C:List Rg):List Rg:=is.filterMap fun i=>C[i]?
theorem St.aF {B:Nat} {w0:aC} {w:World} {C L:List Rg} (h:St B w0 (C ++L) w) (is:List Nat) (c:is.Nodup):St B w0 (pick is C ++L) w:=by
 have d:∀r∈pick is C,∃i,i∈is∧C[i]? =some r:=fun r a=>by
   obtain ⟨i,hi,a⟩:=List.mem_filterMap.1 a
   exact ⟨i,hi,a⟩
 have f:∀r∈pick is C ++L,r∈C ++L:=fun r a=>by
   rcases List.mem_append.1 a with a | a
   · obtain ⟨i,_,hi⟩:=d r a
     exact List.mem_append_left _ (List.mem_of_getElem? hi)
   · exact List.mem_append_right _ a
 have b:=List.pairwise_append.1 h.apart
 refine ⟨h.below,h.base,fun r a=>h.at_ r (f r a),fun r a=>h.free r (f r a),List.pairwise_append.2 ⟨?_,b.2.1,fun r a s hs=>?_⟩⟩
 · have key:∀is:List Nat,is.Nodup→(pick is C).Pairwise Rg.apart:=by
     intro is
     induction is with
     | nil=>intro _;exact .nil
     | cons i is g=>
       intro c
       obtain ⟨h1,h2⟩:=List.nodup_cons.1 c
       unfold pick
       rw [List.filterMap_cons]
       split
       · exact g h2
       · rename_i r a
         refine List.pairwise_cons.2 ⟨fun s hs=>?_,g h2⟩
         obtain ⟨j,m,hs⟩:=List.mem_filterMap.1 hs
         have q:i≠j:=fun e=>h1 (e ▸ m)
         obtain ⟨k,n⟩:=List.getElem?_eq_some_iff.1 a
         obtain ⟨l,o⟩:=List.getElem?_eq_some_iff.1 hs
         rw [← n,← o]
         rcases Nat.lt_or_ge i j with p | t
         · exact List.pairwise_iff_getElem.1 b.1 i j k l p
         · exact (List.pairwise_iff_getElem.1 b.1 j i l k (by omega)).symm
   exact key is c
 · obtain ⟨i,_,hi⟩:=d r a
   exact b.2.2 r (List.mem_of_getElem? hi) s hs
theorem si (b:Nat):∀(us vs:List Value) (o:Nat) (w:World),w.setCells b o (us ++vs)=(w.setCells b o us).setCells b (o+us.length) vs
 | [],vs,o,w=>by simp [World.setCells]
 | u::us,vs,o,w=>by
   simp only [List.cons_append,World.setCells,si b us vs,List.length_cons]
   rw [show o+1+us.length=o+(us.length+1) by omega]
inductive cj (b:Nat):Nat→List (Nat×(Nat→Value))→List Rg→List Rg→Prop
 | nil {o:Nat} {L:List Rg}:cj b o [] L L
 | cons {o m:Nat} {f f':Nat→Value} {ps:List (Nat×(Nat→Value))} {L L':List Rg} (i:Nat) (h:L[i]? =some ⟨some b,o,m,f,true⟩) (t:cj b (o+m) ps (L.set i ⟨some b,o,m,f',true⟩) L'):cj b o ((m,f')::ps) L L'
theorem cj.st {B:Nat} {w0:aC} {b:Nat} {o:Nat} {ps:List (Nat×(Nat→Value))} {L L':List Rg} (h:cj b o ps L L'):∀ {w:World},St B w0 L w→St B w0 L' (w.setCells b o (aS ps))∧w.there b o (aS ps).length:=by
 induction h with
 | nil=>intro w c;exact ⟨c,fun j a=>absurd a (by simp [aS])⟩
 | @cons o m f f' ps L L' i h t l=>
   intro w c
   have h1:St B w0 (L.set i ⟨some b,o,m,f',true⟩) (w.setCells b o ((List.range m).map f')):=by
     have:=c.oW (f':=f') h m (Nat.le_refl _)
     exact this.qY (fun j a=>by simp [a])
   obtain ⟨h2,h3⟩:=l h1
   have g:=List.mem_of_getElem? h
   refine ⟨?_,fun j a=>?_⟩
   · rw [jY,si]
     simpa using h2
   · by_cases k:j < m
     · obtain ⟨d,hp,hc⟩:=c.at_ _ g j k
       obtain rfl:b=d:=Option.some.inj hp
       obtain ⟨d,hp,q,n⟩:=c.free _ g rfl j k
       obtain rfl:b=d:=Option.some.inj hp
       exact ⟨by rw [hc];rfl,n⟩
     · rw [jY] at a
       have e:=h3 (j - m) (by simp at a;omega)
       rw [show o+m+(j - m)=o+j by omega] at e
       refine ⟨?_,by rw [← World.frozen?_setCells b ((List.range m).map f') o w];exact e.2⟩
       have p:=World.cell?_setCells_out b ((List.range m).map f') o w ⟨b,o+j,none⟩ (fun _ _=> .inr (by simp;omega))
       rw [← p];exact e.1
section step
variable {P:Program} {n:Nat} {K:aW→Env→World→Prop} {l:List It} {O O':aW} {e:Env} {w:World} {i ty:Nat} {d:Tmp} {pos:String} {aft:Array Edge} {gd g:Option (Nat×Bool)}
variable {B:Nat} {w0:aC} {L L':List Rg}
theorem gK {dst:Option Tmp} {op:Op} {v:Value} {w':World} (hg:aI n e g=true) (b:(execOp (ev n e) ⟨dst,op,ty,pos,aft,gd⟩).run P w= .ok (.value v) w') (a:St B w0 L' w') (hO:av aft O L' O')
   (h:∀w',St B w0 L' w'→aa P n K l O' (cv e dst v) w'):aa P n K (⟨i,false,⟨dst,op,ty,pos,aft,gd⟩,g⟩::l) O e w:=by
 cases hO with
 | keep hp=>refine dR hg ?_;rw [b];exact .inl ⟨hp.keep a,h _ a⟩
 | wait hw=>refine dR hg ?_;rw [b];exact .inr ⟨hw,h _ a⟩
 | mix O' hf hp=>refine nZ hg ?_;rw [b];exact ⟨ae.mix hf hp a,(show (O.filter fun p=> !ee aft p.1)=O' from hf) ▸ h _ a⟩
theorem xz {dst:Option Tmp} {op:Op} {w':World} (hg:aI n e g=true) (b:(execOp (ev n e) ⟨dst,op,ty,pos,aft,gd⟩).run P w= .ok .skip w') (a:St B w0 L' w') (hO:av aft O L' O')
   (h:∀w',St B w0 L' w'→aa P n K l O' (cv e dst undef) w'):aa P n K (⟨i,false,⟨dst,op,ty,pos,aft,gd⟩,g⟩::l) O e w:=by
 cases hO with
 | keep hp=>refine dR hg ?_;rw [b];exact .inl ⟨hp.keep a,h _ a⟩
 | wait hw=>refine dR hg ?_;rw [b];exact .inr ⟨hw,h _ a⟩
 | mix O' hf hp=>refine nZ hg ?_;rw [b];exact ⟨ae.mix hf hp a,(show (O.filter fun p=> !ee aft p.1)=O' from hf) ▸ h _ a⟩
def sC:List (Nat×(Nat→Value))→Prop
 | []=>True
 | q::r=>(∀j,j < q.1→(q.2 j).oneCell'=true)∧sC r
theorem wx:∀ {ps:List (Nat×(Nat→Value))},sC ps→∀q∈ps,∀j,j < q.1→(q.2 j).oneCell'=true
 | [],_,q,hq=>by cases hq
 | _::_,h,q,hq=>by
   rcases List.mem_cons.1 hq with rfl | hq
   · exact h.1
   · exact wx h.2 q hq
theorem bA (c:St B w0 L w) {t:TypeId} {x y:Operand} {b o:Nat} {ps:List (Nat×(Nat→Value))} (hg:aI n e g=true) (hx:ev n e x= .pointer (some ⟨b,o,none⟩)) (hy:ev n e y=AG ps) (d:cj b o ps L L')
   (f:sC ps) (a:bN P t (ps.map (·.1)).sum=true) (hO:av aft O L' O')
   (h:∀w',St B w0 L' w'→aa P n K l O' e w'):aa P n K (⟨i,false,⟨none,.store t x y,ty,pos,aft,gd⟩,g⟩::l) O e w:=by
 obtain ⟨h1,h2⟩:=d.st c
 refine xz hg (w':=w.setCells b o (aS ps)) (pJ ?_) h1 hO h
 rw [hx,hy]
 have k:(P.info? t).map (·.size)=some (aS ps).toArray.size:=by
   unfold bN at a
   cases hi:P.info? t with
   | none=>rw [hi] at a;cases a
   | some i=>rw [hi] at a;simp only [beq_iff_eq] at a;simp [a,fj]
 refine (run_storeAt_mid w b o t (aS ps).toArray (by simpa using h2) k ?_).trans (by simp)
 rw [Array.all_eq_true_iff_forall_mem]
 intro v e'
 have e':v∈aS ps:=by simpa using e'
 unfold aS at e'
 obtain ⟨q,hq,e'⟩:=List.mem_flatMap.1 e'
 obtain ⟨j,m,rfl⟩:=List.mem_map.1 e'
 exact wx f q hq j (List.mem_range.1 m)
theorem run_sliceBound {x:Nat} {y:Nat} {c:BoundsCode} {k:IntKind} (h:x≤y) (w:World):(Instr.sliceBound (.int k (x:Int)) y c).run P w= .ok x w:=by
 unfold Instr.sliceBound
 have hc:(0:Int)≤(x:Int)∧(x:Int)≤(y:Int):=by omega
 simp only [Sem.run_bind,asIntOf,Sem.run_pure,Result.andThen,if_pos hc,Int.toNat_natCast]
theorem EG {t:TypeId} {x:Operand} {b o len sz lo hi:Nat} {low high:Option Operand} (ha:du P t len sz=true) (hg:aI n e g=true) (hx:ev n e x= .pointer (some ⟨b,o,none⟩))
   (c:match low with | some y=>∃k,ev n e y= .int k (lo:Int) | none=>lo=0) (a:match high with | some y=>∃k,ev n e y= .int k (hi:Int) | none=>hi=len) (hb:lo≤hi∧hi≤len∧lo < len)
   (h:aa P n K l O (an e d (.slice (some ⟨b,o+lo*sz,none⟩) (hi - lo) (len - lo))) w):aa P n K (⟨i,true,⟨some d,.slice t x low high none,ty,pos,aft,gd⟩,g⟩::l) O e w:=
 aa.val hg (fun w=>b8 (by
   obtain ⟨el,hu,hs⟩:=rE ha
   rw [hx]
   have j:(Instr.sliceBounds false len len (low.map (ev n e)) (high.map (ev n e)) none).run P w= .ok (lo,hi,len) w:=by
     unfold Instr.sliceBounds
     cases low with
     | none=>
       cases high with
       | none=>
         simp only at c a
         subst c a
         simp
       | some y=>
         obtain ⟨k,hy⟩:=a
         simp only at c
         subst c
         simp [hy,run_sliceBound hb.2.1]
     | some z=>
       obtain ⟨m,f⟩:=c
       cases high with
       | none=>
         simp only at a
         subst a
         simp [f,run_sliceBound hb.1]
       | some y=>
         obtain ⟨k,hy⟩:=a
         simp [hy,f,run_sliceBound hb.2.1,run_sliceBound hb.1]
   simp only [Instr.sliceAt,Sem.run_bind,run_underlying hu w,Result.andThen,Instr.sureAddr,Sem.run_pure,Option.map_none,j,et hs,s_,if_neg (show¬len=lo by omega)])) h
theorem gF {t:TypeId} {x:Operand} {a:Option Addr} {len cap sz lo hi:Nat} {low high:Option Operand} (ha:dc P t sz=true) (hg:aI n e g=true) (hx:ev n e x= .slice a len cap)
   (c:match low with | some y=>∃k,ev n e y= .int k (lo:Int) | none=>lo=0) (b:match high with | some y=>∃k,ev n e y= .int k (hi:Int) | none=>hi=len) (hb:lo≤hi∧hi≤cap)
   (h:aa P n K l O (an e d (.slice (if cap=lo then a else a.map (·.add (lo*sz))) (hi - lo) (cap - lo))) w):aa P n K (⟨i,true,⟨some d,.slice t x low high none,ty,pos,aft,gd⟩,g⟩::l) O e w:=
 aa.val hg (fun w=>b8 (by
   obtain ⟨el,hu,hs⟩:=j4 ha
   rw [hx]
   have j:(Instr.sliceBounds true len cap (low.map (ev n e)) (high.map (ev n e)) none).run P w= .ok (lo,hi,cap) w:=by
     unfold Instr.sliceBounds
     cases low with
     | none=>
       cases high with
       | none=>
         simp only at c b
         subst c b
         simp
       | some y=>
         obtain ⟨k,hy⟩:=b
         simp only at c
         subst c
         simp [hy,run_sliceBound hb.2]
     | some z=>
       obtain ⟨m,f⟩:=c
       cases high with
       | none=>
         simp only at b
         subst b
         simp [f,run_sliceBound hb.1]
       | some y=>
         obtain ⟨k,hy⟩:=b
         simp [hy,f,run_sliceBound hb.2,run_sliceBound hb.1]
   simp only [Instr.sliceAt,Instr.slice,Sem.run_bind,run_underlying hu w,Result.andThen,Sem.run_pure,Option.map_none,j,et hs])) h
theorem aa.buildSlice (c:St B w0 L w) {t:TypeId} {len sz:Nat} {parts:Array (Nat×Operand)} {ps:List (Nat×(Nat→Value))} {vs:List (Nat×Value)} {z:Value} {el:TypeId} (hu:P.underlying t=some (.slice el)) (hs:bN P el sz=true) (j:(P.info? el).bind (·.zero)=some z)
   (hl:0 < len*sz) (q:len*sz≤16777216) (hg:aI n e g=true)
   (hv:parts.toList.map (fun p=>(p.1,ev n e p.2))=vs) (hf:eF (fun i=>some (i*sz,sz)) ((List.range (len*sz)).map fun i=>z.cells[i % z.cells.size]!) vs=some (aS ps)) (hO:av aft O L O')
   (h:∀b w',B≤b→St B w0 (ao b 0 ps ++L) w'→aa P n K l O' (an e d (.slice (some ⟨b,0,none⟩) len len)) w'):
   aa P n K (⟨i,false,⟨some d,.buildSlice t len parts,ty,pos,aft,gd⟩,g⟩::l) O e w:=by
 have a:=c.alloc ps el
 have f:(execOp (ev n e) ⟨some d,.buildSlice t len parts,ty,pos,aft,gd⟩).run P w= .ok (.value (.slice (some ⟨w.heap.size,0,none⟩) len len)) (w.alloc (.cells (aS ps).toArray el)):=b8 (by
   have k:(parts.map fun (i,x)=>(i,ev n e x)).toList=vs:=by rw [← hv];simp
   have m:=kR _ _ _ hf
   have o:((Array.range (len*sz)).map (z.cells[· % z.cells.size]!))=((List.range (len*sz)).map fun i=>z.cells[i % z.cells.size]!).toArray:=by
     apply Array.ext';simp
   simp only [Instr.buildSlice,Sem.run_bind,run_underlying hu w,Result.andThen,et hs,if_neg (show¬len*sz > 2 ^ 24 by omega),Sem.run_pure,if_neg (show¬len*sz=0 by omega),h6 j,k,o,m,newRow,newObj]
   rfl)
 cases hO with
 | keep hp=>refine dR hg ?_;rw [f];exact .inl ⟨(hp.app _ rfl).keep a,h _ _ c.base a⟩
 | wait hw=>refine dR hg ?_;rw [f];exact .inr ⟨hw,h _ _ c.base a⟩
 | mix O' hf hp=>refine nZ hg ?_;rw [f];exact ⟨ae.mix hf (hp.app _ rfl) a,(show (O.filter fun p=> !ee aft p.1)=O' from hf) ▸ h _ _ c.base a⟩
end step
end Go.LW
namespace Go.LW
set_option linter.unusedSimpArgs false
set_option linter.unusedVariables false
set_option linter.unusedSectionVars false
open Go Go.RowKit
def bh {α:Type} (f:Nat→α) (j a:Nat) (g:Nat→α):Nat→α:=fun q=>if j≤q∧q < j+a then g (q - j) else f q
theorem eh {α:Type} (f:Nat→α) (j a:Nat) (g:Nat→α) (q:Nat) (h:j≤q∧q < j+a):bh f j a g q=g (q - j):=by unfold bh;rw [if_pos h]
theorem c7 {α:Type} (f:Nat→α) (j a:Nat) (g:Nat→α) (q:Nat) (h:¬(j≤q∧q < j+a)):bh f j a g q=f q:=by unfold bh;rw [if_neg h]
theorem o1 {α β:Type} (a:α→β) (f:Nat→α) (j b:Nat) (g:Nat→α):(fun q=>a (bh f j b g q))=bh (fun q=>a (f q)) j b (fun q=>a (g q)):=by
 funext q;unfold bh;split <;> rfl
section st
variable {B:Nat} {w0:aC} {w:World} {L:List Rg}
theorem St.jL (h:St B w0 L w) {k b off m j:Nat} {f g:Nat→Value} (a:L[k]? =some ⟨some b,off,m,f,true⟩):
   ∀q,j+q≤m→St B w0 (L.set k ⟨some b,off,m,bh f j q g,true⟩) (w.setCells b (off+j) ((List.range q).map g))
 | 0,_=>by
   have h1:bh f j 0 g=f:=by funext x;rw [c7 _ _ _ _ _ (by omega)]
   rw [h1]
   have h2:L.set k ⟨some b,off,m,f,true⟩=L:=by
     obtain ⟨hk,c⟩:=List.getElem?_eq_some_iff.1 a
     rw [← c];exact List.set_getElem_self hk
   rw [h2]
   exact h
 | q+1,hq=>by
   have d:=St.jL h (j:=j) (g:=g) a q (by omega)
   have hk:k < L.length:=(List.getElem?_eq_some_iff.1 a).1
   have e:(L.set k ⟨some b,off,m,bh f j q g,true⟩)[k]? =some ⟨some b,off,m,bh f j q g,true⟩:=by simp [hk]
   have:=d.set (j:=j+q) (v:=g q) e (by omega)
   rw [List.set_set] at this
   have i:an (bh f j q g) (j+q) (g q)=bh f j (q+1) g:=by
     funext x
     simp only [da,bh]
     by_cases h1:x=j+q
     · subst h1;simp
     · by_cases h2:j≤x∧x < j+q
       · rw [if_neg h1,if_pos h2,if_pos (by omega)]
       · rw [if_neg h1,if_neg h2,if_neg (by omega)]
   rw [i] at this
   have l:(w.setCells b (off+j) ((List.range (q+1)).map g))=(w.setCells b (off+j) ((List.range q).map g)).setCell ⟨b,off+(j+q),none⟩ (g q):=by
     rw [List.range_succ,List.map_append,si]
     simp [World.setCells,Nat.add_assoc]
   rw [l]
   exact this
theorem St.lh (h:St B w0 L w) {k b off m j q:Nat} {f:Nat→Value} (d:L[k]? =some ⟨some b,off,m,f,true⟩) (hq:j+q≤m):w.there b (off+j) q:=fun x hx=>by
 have c:=List.mem_of_getElem? d
 obtain ⟨a,hp,hc⟩:=h.at_ _ c (j+x) (show j+x < m by omega)
 obtain rfl:b=a:=Option.some.inj hp
 obtain ⟨a,hp,g,e⟩:=h.free _ c rfl (j+x) (show j+x < m by omega)
 obtain rfl:b=a:=Option.some.inj hp
 rw [Nat.add_assoc]
 exact ⟨by rw [hc];rfl,e⟩
end st
section step
variable {P:Program} {n:Nat} {K:aW→Env→World→Prop} {l:List It} {O O':aW} {e:Env} {w:World} {i ty:Nat} {d:Tmp} {pos:String} {aft:Array Edge} {gd g:Option (Nat×Bool)}
variable {B:Nat} {w0:aC} {L L':List Rg}
theorem zY (d:St B w0 L w) {t:TypeId} {x y:Operand} {b o off m m' j:Nat} {f f':Nat→Value} (k:Nat) (hg:aI n e g=true) (hx:ev n e x= .pointer (some ⟨b,o,none⟩)) (hy:ev n e y=AG [(m',f')]) (p:L[k]? =some ⟨some b,off,m,f,true⟩)
   (ho:o=off+j) (c:j+m'≤m) (hv:∀j,j < m'→(f' j).oneCell'=true) (a:bN P t m'=true) (hO:av aft O (L.set k ⟨some b,off,m,bh f j m' f',true⟩) O')
   (h:∀w',St B w0 (L.set k ⟨some b,off,m,bh f j m' f',true⟩) w'→aa P n K l O' e w'):aa P n K (⟨i,false,⟨none,.store t x y,ty,pos,aft,gd⟩,g⟩::l) O e w:=by
 refine xz hg (w':=w.setCells b (off+j) ((List.range m').map f')) (pJ ?_) (d.jL p m' c) hO h
 rw [hx,hy,ho]
 have q:(P.info? t).map (·.size)=some ((List.range m').map f').toArray.size:=by
   unfold bN at a
   cases hi:P.info? t with
   | none=>rw [hi] at a;cases a
   | some i=>rw [hi] at a;simp only [beq_iff_eq] at a;simp [a]
 have r:aS [(m',f')]=(List.range m').map f':=by simp [aS]
 unfold AG
 rw [r]
 refine (run_storeAt_mid w b (off+j) t ((List.range m').map f').toArray (by simpa using d.lh p c) q ?_).trans (by simp)
 rw [Array.all_eq_true_iff_forall_mem]
 intro v e'
 simp only [List.mem_toArray,List.mem_map,List.mem_range] at e'
 obtain ⟨j,c,rfl⟩:=e'
 exact hv j c
theorem hY (a:St B w0 L w) {t:TypeId} {x y:Operand} {b off:Nat} {f:Nat→Value} {v:Value} (k:Nat) (hg:aI n e g=true) (hx:ev n e x= .pointer (some ⟨b,off,none⟩)) (hy:ev n e y=v) (c:L[k]? =some ⟨some b,off,1,f,true⟩)
   (hv:v.oneCell'=true) (d:bN P t 1=true) (hO:O.all (fun p=>cF ⟨none,.store t x y,ty,pos,aft,gd⟩ p.1)=true)
   (h:∀w',St B w0 (L.set k ⟨some b,off,1,fun _=>v,true⟩) w'→aa P n K l [] e w'):aa P n K (⟨i,false,⟨none,.store t x y,ty,pos,aft,gd⟩,g⟩::l) O e w:=
 Dt a k hg hx hy c (by omega) hv d hO fun w' m=>h w' (m.qY (fun j o=>by
   obtain rfl:j=0:=by omega
   rfl))
theorem gn (c:St B w0 L w) {t:TypeId} {x y:Operand} {b off:Nat} {f:Nat→Value} {kd:IntKind} {a:Int} (k:Nat) (hg:aI n e g=true) (hx:ev n e x= .pointer (some ⟨b,off,none⟩)) (hy:ev n e y= .int kd a) (d:L[k]? =some ⟨some b,off,1,f,true⟩)
   (j:bN P t 1=true) (hO:O.all (fun p=>cF ⟨none,.store t x y,ty,pos,aft,gd⟩ p.1)=true)
   (h:∀w',St B w0 (L.set k ⟨some b,off,1,fun _=> .int kd a,true⟩) w'→aa P n K l [] e w'):aa P n K (⟨i,false,⟨none,.store t x y,ty,pos,aft,gd⟩,g⟩::l) O e w:=
 hY c k hg hx hy d rfl j hO h
theorem wY {b o:Nat} {vs:List Value} {w:World} (c:w.there b o vs.length) (hv:∀v∈vs,v.oneCell'=true):(storeCells (⟨b,o,none⟩:Addr) vs).run P w= .ok () (w.setCells b o vs):=by
 have:=run_storeCells_cells (P:=P) b o vs 0 w (fun j a=>by simpa using (c j a).1) (fun j a=>by simpa using (c j a).2) hv
 simpa using this
theorem kn {a:Builtin} {x y:Operand} {ρ:Operand→Value} {t t' ty:TypeId} {v:Value} {dst:Option Tmp} {w w':World}
   (h:∀cs,(builtin a #[t,t'] ty cs #[ρ x,ρ y]).run P w= .ok (.value v) w'):(execOp ρ ⟨dst,.call ⟨.builtin a,#[x,y],#[t,t']⟩,ty,pos,aft,gd⟩).run P w= .ok (.value v) w':=by
 have b:Array.map ρ #[x,y]= #[ρ x,ρ y]:=by simp
 simp only [execOp,resolve,Sem.run_bind,Sem.run_pure,Result.andThen,invoke,b]
 exact h _
def ey (a:Option Addr) (pb:Option Nat) (o len:Nat):Prop:=0 < len→∃b,pb=some b∧a=some ⟨b,o,none⟩
theorem sb {a:Option Addr} {pb:Option Nat} {o len cap c off m j:Nat} {f:Nat→Value} {rw:Bool} (e:St B w0 L w) {k:Nat} (g:L[k]? =some ⟨pb,off,m,f,rw⟩) (hs:ey a pb o len) (ho:o=off+j) (hc:c≤len) (n:j+c≤m):
   (Builtin.firstCells 1 c (.slice a len cap)).run P w= .ok ((List.range c).map fun q=>f (j+q)).toArray w:=by
 by_cases h:c=0
 · subst h
   cases a with
   | none=>rfl
   | some a=>rfl
 · obtain ⟨b,hp,ha⟩:=hs (by omega)
   subst ha
   simp only [Builtin.firstCells,Nat.mul_one]
   refine run_loadCells w ⟨b,o,none⟩ c (fun q=>f (j+q)) (fun q hq=>?_)
   obtain ⟨i,d,l⟩:=e.mem g (j+q) (show j+q < m by omega)
   simp only at d
   obtain rfl:b=i:=by rw [hp] at d;exact Option.some.inj d
   rw [Addr.add_mid,ho,Nat.add_assoc,l]
theorem A3 {t t' ty el:TypeId} {g as:Option Addr} {e ps:Option Nat} {h os ld cd ls cs a d md jd k ms c:Nat} {F G:Nat→Value} {rw:Bool} (f:St B w0 L w) {kd ks:Nat} (hu:P.underlying t=some (.slice el)) (l:bN P el 1=true)
   (i:L[kd]? =some ⟨e,d,md,F,true⟩) (o:L[ks]? =some ⟨ps,k,ms,G,rw⟩) (p:ey g e h ld) (hs:ey as ps os ls) (r:h=d+jd) (s:os=k+c) (u:a=min ls ld) (m:jd+a≤md) (y:c+a≤ms)
   (z:∀j,j < ms→(G j).oneCell'=true):∃w',(Builtin.copy_ #[t,t'] ty #[.slice g ld cd,.slice as ls cs]).run P w= .ok (VN a) w'∧St B w0 (L.set kd ⟨e,d,md,bh F jd a (fun q=>G (c+q)),true⟩) w':=by
 have h1:(Builtin.firstCells 1 a (.slice as ls cs)).run P w= .ok ((List.range a).map fun q=>G (c+q)).toArray w:=
   sb f o hs s (by omega) y
 have n:Nat.min ls ld=a:=u.symm
 by_cases A:a=0
 · have C:bh F jd a (fun q=>G (c+q))=F:=by funext x;rw [c7 _ _ _ _ _ (by omega)]
   refine ⟨w,?_,?_⟩
   · simp only [Builtin.copy_]
     simp only [List.getElem?_toArray,List.getElem?_cons_zero,List.getElem?_cons_succ,Sem.run_bind,run_underlying hu w,Result.andThen,Builtin.lenOf,Sem.run_pure,et l,n,h1]
     subst A
     cases g <;> rfl
   · rw [C]
     have h2:L.set kd ⟨e,d,md,F,true⟩=L:=by
       obtain ⟨hk,D⟩:=List.getElem?_eq_some_iff.1 i
       rw [← D];exact List.set_getElem_self hk
     rw [h2];exact f
 · obtain ⟨b,hp,ha⟩:=p (by omega)
   subst hp ha
   refine ⟨w.setCells b (d+jd) ((List.range a).map fun q=>G (c+q)),?_,f.jL i a m⟩
   have h3:(storeCells (⟨b,h,none⟩:Addr) ((List.range a).map fun q=>G (c+q))).run P w= .ok () (w.setCells b (d+jd) ((List.range a).map fun q=>G (c+q))):=by
     rw [r]
     refine wY (by simpa using f.lh i m) (fun v hv=>?_)
     simp only [List.mem_map,List.mem_range] at hv
     obtain ⟨q,hq,rfl⟩:=hv
     exact z _ (by omega)
   simp only [Builtin.copy_]
   simp only [List.getElem?_toArray,List.getElem?_cons_zero,List.getElem?_cons_succ,Sem.run_bind,run_underlying hu w,Result.andThen,Builtin.lenOf,Sem.run_pure,et l,n,h1,h3]
   rfl
theorem E7 (u:St B w0 L w) {t t':TypeId} {x y:Operand} {m as:Option Addr} {b ps:Option Nat} {o os ld cd ls cs f md jd p ms j s:Nat} {k:IntKind} {F G:Nat→BitVec s} {rw:Bool} (kd ks a:Nat) (hu:dc P t 1=true) (hg:aI n e g=true)
   (hx:ev n e x= .slice m ld cd) (hy:ev n e y= .slice as ls cs)
   (z:L[kd]? =some ⟨b,f,md,fun q=>VU k (F q),true⟩) (A:L[ks]? =some ⟨ps,p,ms,fun q=>VU k (G q),rw⟩) (C:ey m b o ld) (hs:ey as ps os ls) (D:o=f+jd) (E:os=p+j) (H:a=min ls ld) (I:jd+a≤md) (J:j+a≤ms)
   (hO:av aft O (L.set kd ⟨b,f,md,fun q=>VU k (bh F jd a (fun q=>G (j+q)) q),true⟩) O')
   (h:∀w',St B w0 (L.set kd ⟨b,f,md,fun q=>VU k (bh F jd a (fun q=>G (j+q)) q),true⟩) w'→aa P n K l O' (cv e (some d) (VN a)) w'):
   aa P n K (⟨i,false,⟨some d,.call ⟨.builtin .copy,#[x,y],#[t,t']⟩,ty,pos,aft,gd⟩,g⟩::l) O e w:=by
 obtain ⟨el,hu,M⟩:=j4 hu
 obtain ⟨w',N,r⟩:=A3 (P:=P) (t':=t') (ty:=ty) (cd:=cd) (cs:=cs) u hu M z A C hs D E H I J (fun _ _=>rfl)
 rw [← o1] at r
 refine gK hg (w':=w') (v:=VN a) (kn fun c=>?_) r hO h
 rw [hx,hy]
 simp only [builtin,Sem.run_bind,N]
 rfl
end step
def Bs (L:List Rg) (a:Option Addr) (len cc:Nat) (M:Nat→BitVec 8):Prop:=
 ∃(d c ms b os:Nat) (ps:Option Nat) (G:Nat→BitVec 8) (rw:Bool),L[d]? =some ⟨ps,c,ms,fun q=>VU .u8 (G q),rw⟩∧ey a ps os len∧os=c+b∧b+len≤ms∧len≤cc∧∀q,q < len→M q=G (b+q)
theorem Bs.cons {L:List Rg} {a:Option Addr} {len cc:Nat} {M:Nat→BitVec 8} (h:Bs L a len cc M) (r:Rg):Bs (r::L) a len cc M:=by
 obtain ⟨b,c,ms,d,os,ps,G,rw,h1,h2⟩:=h
 exact ⟨b+1,c,ms,d,os,ps,G,rw,h1,h2⟩
theorem Bs.app {L:List Rg} {a:Option Addr} {len cc:Nat} {M:Nat→BitVec 8} (h:Bs L a len cc M):∀C:List Rg,Bs (C ++L) a len cc M
 | []=>h
 | r::C=>(Bs.app h C).cons r
theorem Bs.nil (L:List Rg) (M:Nat→BitVec 8) (i:Nat) {r:Rg} {G:Nat→BitVec 8} {ps:Option Nat} {a ms:Nat} {rw:Bool} (h:L[i]? =some r) (b:r=⟨ps,a,ms,fun q=>VU .u8 (G q),rw⟩):Bs L none 0 0 M:=
 ⟨i,a,ms,0,a,ps,G,rw,by rw [h,b],fun h=>absurd h (by omega),rfl,by omega,Nat.le_refl _,fun q hq=>absurd hq (by omega)⟩
theorem Bs.congr {L:List Rg} {a:Option Addr} {len cc:Nat} {M b:Nat→BitVec 8} (h:Bs L a len cc M) (hm:∀q,q < len→b q=M q):Bs L a len cc b:=by
 obtain ⟨c,d,ms,e,os,ps,G,rw,h1,h2,h3,f,g,i⟩:=h
 exact ⟨c,d,ms,e,os,ps,G,rw,h1,h2,h3,f,g,fun q hq=>by rw [hm q hq];exact i q hq⟩
theorem Bs.of {L:List Rg} (i:Nat) {b a ms:Nat} {G:Nat→BitVec 8} {rw:Bool} (h:L[i]? =some ⟨some b,a,ms,fun q=>VU .u8 (G q),rw⟩) {len cc:Nat} (hl:len≤ms) (hc:len≤cc):Bs L (some ⟨b,a,none⟩) len cc G:=
 ⟨i,a,ms,0,a,some b,G,rw,h,fun _=>⟨b,rfl,rfl⟩,rfl,by omega,hc,fun q _=>by rw [Nat.zero_add]⟩
theorem Bs.slice {L:List Rg} {a:Option Addr} {len cc:Nat} {M:Nat→BitVec 8} (h:Bs L a len cc M) {lo hi:Nat} (hb:lo≤hi∧hi≤len):Bs L (if cc=lo then a else a.map (·.add (lo*1))) (hi - lo) (cc - lo) (fun q=>M (lo+q)):=by
 obtain ⟨c,d,ms,e,os,ps,G,rw,h1,h2,h3,g,i,f⟩:=h
 refine ⟨c,d,ms,e+lo,os+lo,ps,G,rw,h1,fun j=>?_,by omega,by omega,by omega,fun q hq=>by show M (lo+q)=_;rw [f _ (by omega),Nat.add_assoc]⟩
 obtain ⟨b,hp,ha⟩:=h2 (by omega)
 refine ⟨b,hp,?_⟩
 rw [if_neg (by omega),ha,Nat.mul_one]
 simp [Addr.add_mid]
end Go.LW
namespace Go.LW
set_option linter.unusedSimpArgs false
set_option linter.unusedVariables false
set_option linter.unusedSectionVars false
open Go Go.RowKit
def kI (P:Program) (t:TypeId) (s a:Nat) (z:Value):Prop:=∃el i,P.underlying t=some (.slice el)∧P.info? el=some i∧i.size=s∧i.bytes=a∧i.zero=some z
def eT (P:Program) (t:TypeId):Option (Nat×Nat×Option Value):=match P.underlying t with
 | some (.slice el)=>(P.info? el).map fun i=>(i.size,i.bytes,i.zero)
 | _=>none
theorem hZ {P:Program} {t:TypeId} {s a:Nat} {z:Value} (h:eT P t=some (s,a,some z)):kI P t s a z:=by
 unfold eT at h
 cases hu:P.underlying t with
 | none=>rw [hu] at h;cases h
 | some b=>
   rw [hu] at h
   cases b <;> try (cases h;done)
   rename_i el
   simp only at h
   cases hi:P.info? el with
   | none=>rw [hi] at h;cases h
   | some i=>
     rw [hi] at h
     simp only [Option.map_some,Option.some.injEq,Prod.mk.injEq] at h
     exact ⟨el,i,hu,hi,h.1,h.2.1,h.2.2⟩
def dI (a:Option Addr) (pb:Option Nat) (cap:Nat):Prop:=(cap=0∧a=none∧pb=none)∨∃b,pb=some b∧a=some ⟨b,0,none⟩
theorem dI.sl {a:Option Addr} {pb:Option Nat} {cap len:Nat} (h:dI a pb cap) (hl:len≤cap):ey a pb 0 len:=fun c=>by
 rcases h with ⟨h1,_⟩ | ⟨b,h1,h2⟩
 · omega
 · exact ⟨b,h1,h2⟩
section st
variable {B:Nat} {w0:aC} {w:World} {L:List Rg}
theorem St.hP (h:St B w0 L w) (f:Nat→Value):St B w0 (⟨none,0,0,f,true⟩::L) w:=
 h.cons (fun j a=>absurd a (by simp)) (fun _ j a=>absurd a (by simp)) (fun s _ _=> .inr (.inr (.inr (.inl rfl))))
theorem St.tO {r:Rg} (h:St B w0 (r::L) w) {k:Nat} (e:k < L.length):St B w0 (L.set k r) w:=by
 have a:=List.pairwise_cons.1 h.apart
 refine ⟨h.below,h.base,fun s hs=>?_,fun s hs=>?_,?_⟩
 · rcases List.mem_or_eq_of_mem_set hs with hs | rfl
   · exact h.at_ s (List.mem_cons_of_mem _ hs)
   · exact h.at_ _ List.mem_cons_self
 · rcases List.mem_or_eq_of_mem_set hs with hs | rfl
   · exact h.free s (List.mem_cons_of_mem _ hs)
   · exact h.free _ List.mem_cons_self
 · rw [List.pairwise_iff_getElem]
   intro x y hx hy d
   have b:x < L.length:=by simpa using hx
   have c:y < L.length:=by simpa using hy
   rw [List.getElem_set,List.getElem_set]
   by_cases h1:k=x
   · rw [if_pos h1,if_neg (by omega)]
     exact a.1 _ (List.getElem_mem c)
   · rw [if_neg h1]
     by_cases h2:k=y
     · rw [if_pos h2]
       exact (a.1 _ (List.getElem_mem b)).symm
     · rw [if_neg h2]
       exact List.pairwise_iff_getElem.1 a.2 x y b c d
end st
section run
variable {P:Program} {B:Nat} {w0:aC} {w:World} {L:List Rg}
theorem eg (m:Nat) (f:Nat→Value):aS [(m,f)]=(List.range m).map f:=by simp [aS]
theorem vq (d:St B w0 L w) {t t' ty:TypeId} {s r len cap n k:Nat} {z:Value} {zf:Nat→Value} {a:Option Addr} {pb:Option Nat} {F g:Nat→Value} {y:Value} (he:kI P t s r z) (G:z.cells.size=s) (H:∀q,q < s→z.cells[q]! =zf q) (e:L[k]? =some ⟨pb,0,cap*s,F,true⟩) (ho:dI a pb cap)
   (m:Src P s t' y n ((List.range (n*s)).map g) w) (u:len≤cap) (hb:(len+n)*r≤140737488355328) (Y:len+n < 9223372036854775808):
   ∃w' v A h ip,(Builtin.append_ #[t,t'] ty #[.slice a len cap,y]).run P w= .ok (.slice v (len+n) h) w'∧dI v A h∧len+n≤h∧St B w0 (L.set k ⟨A,0,h*s,fun q=>if ip=true∨q < (len+n)*s then bh F (len*s) (n*s) g q else zf (q % s),true⟩) w':=by
 obtain ⟨el,i,hu,hi,I,J,K⟩:=he
 subst I
 have hk:k < L.length:=(List.getElem?_eq_some_iff.1 e).1
 have C:(fun q=>if true=true∨q < (len+n)*i.size then bh F (len*i.size) (n*i.size) g q else zf (q % i.size))=bh F (len*i.size) (n*i.size) g:=by funext q;rw [if_pos (.inl rfl)]
 by_cases l:len+n≤cap
 · by_cases c:n=0
   · subst c
     refine ⟨w,a,pb,cap,true,run_append_nothing w t t' ty el i hu hi a len cap u y (by simpa using m),ho,l,?_⟩
     rw [C]
     have h1:bh F (len*i.size) (0*i.size) g=F:=by rw [Nat.zero_mul];funext q;rw [c7 _ _ _ _ _ (by omega)]
     rw [h1]
     have h2:L.set k ⟨pb,0,cap*i.size,F,true⟩=L:=by
       obtain ⟨hk,M⟩:=List.getElem?_eq_some_iff.1 e
       rw [← M];exact List.set_getElem_self hk
     rw [h2];exact d
   · obtain ⟨b,o,ha⟩:∃b,pb=some b∧a=some ⟨b,0,none⟩:=by
       rcases ho with ⟨h1,_⟩ | h1
       · omega
       · exact h1
     subst o ha
     have f:len*i.size+n*i.size≤cap*i.size:=by rw [← Nat.add_mul];exact Nat.mul_le_mul_right _ l
     have D:=d.lh e f
     refine ⟨_,some ⟨b,0,none⟩,some b,cap,true,run_append_room_src w t t' ty el i hu hi b 0 len cap y n _ m l (fun j p=>(D j (by simpa using p)).1) (fun j p=>(D j (by simpa using p)).2),.inr ⟨b,rfl,rfl⟩,l,?_⟩
     rw [C]
     exact d.jL e (n*i.size) f
 · have N:=grownCap_ge w (len+n) cap el
   have hold:(Builtin.firstCells i.size len (.slice a len cap)).run P w.drew= .ok ((List.range (len*i.size)).map F).toArray w.drew:=by
     by_cases c:len=0
     · subst c
       cases a with
       | none=>simp [Builtin.firstCells]
       | some a=>simp [Builtin.firstCells,loadCells];rfl
     · obtain ⟨b,o,ha⟩:∃b,pb=some b∧a=some ⟨b,0,none⟩:=by
         rcases ho with ⟨h1,_⟩ | h1
         · omega
         · exact h1
       subst o ha
       simp only [Builtin.firstCells]
       refine run_loadCells w.drew ⟨b,0,none⟩ (len*i.size) F (fun q hq=>?_)
       have f:len*i.size≤cap*i.size:=Nat.mul_le_mul_right _ u
       obtain ⟨O,Q,R⟩:=d.drew.mem e q (show q < cap*i.size by omega)
       obtain rfl:b=O:=Option.some.inj Q
       rw [Addr.add_mid]
       exact R
   have f:=growslice_fits (need:=len+n) (old:=cap) (bytes:=i.bytes) (by omega) (by rw [J];exact hb)
   have E:=run_append_grow_src (P:=P) w t t' ty el i z hu hi K a len cap _ hold y n _ m (by omega) (by omega) f
   have Z:(len+n)*i.size+(grownCap w (len+n) cap el - (len+n))*i.size=grownCap w (len+n) cap el*i.size:=by rw [← Nat.add_mul];congr 1;omega
   have S:(len+n)*i.size=len*i.size+n*i.size:=Nat.add_mul _ _ _
   have T:(aS [(grownCap w (len+n) cap el*i.size,fun q=>if false=true∨q < (len+n)*i.size then bh F (len*i.size) (n*i.size) g q else zf (q % i.size))]).toArray=((List.range (len*i.size)).map F ++(List.range (n*i.size)).map g).toArray ++Builtin.zeroCells z.cells (grownCap w (len+n) cap el - (len+n)):=by
     apply Array.ext'
     apply List.ext_getElem?
     intro q
     rw [eg]
     have U:(Builtin.zeroCells z.cells (grownCap w (len+n) cap el - (len+n))).toList=(List.range ((grownCap w (len+n) cap el - (len+n))*i.size)).map fun x=>zf (x % i.size):=by
       unfold Builtin.zeroCells
       rw [G]
       simp only [Array.toList_map,Array.toList_range]
       refine List.map_congr_left fun x hx=>?_
       have hx:=List.mem_range.1 hx
       have V:0 < i.size:=by
         rcases Nat.eq_zero_or_pos i.size with c | c
         · rw [c] at hx;omega
         · exact c
       exact H _ (Nat.mod_lt _ V)
     simp only [Array.toList_append,U]
     by_cases h1:q < len*i.size
     · rw [List.append_assoc,List.getElem?_append_left (by simpa using h1)]
       simp [show q < grownCap w (len+n) cap el*i.size by omega,h1,show q < (len+n)*i.size by omega,bh,show¬(len*i.size≤q∧q < len*i.size+n*i.size) by omega]
     · rw [List.append_assoc,List.getElem?_append_right (by simpa using h1)]
       by_cases h2:q < (len+n)*i.size
       · rw [List.getElem?_append_left (by simp;omega)]
         simp [show q < grownCap w (len+n) cap el*i.size by omega,h2,bh,show len*i.size≤q∧q < len*i.size+n*i.size by omega,show q - len*i.size < n*i.size by omega]
       · rw [List.getElem?_append_right (by simp;omega)]
         by_cases h3:q < grownCap w (len+n) cap el*i.size
         · have W:(q - len*i.size - n*i.size) % i.size=q % i.size:=by
             have X:q=(q - len*i.size - n*i.size)+i.size*(len+n):=by rw [Nat.mul_comm i.size,S];omega
             conv=>rhs;rw [X]
             rw [Nat.add_mul_mod_self_left]
           simp [h3,h2,show q - len*i.size - n*i.size < (grownCap w (len+n) cap el - (len+n))*i.size by omega,W]
         · simp [h3,show¬(q - len*i.size - n*i.size < (grownCap w (len+n) cap el - (len+n))*i.size) by omega]
   rw [← T] at E
   refine ⟨_,some ⟨w.heap.size,0,none⟩,some w.heap.size,grownCap w (len+n) cap el,false,E,.inr ⟨_,rfl,rfl⟩,N,?_⟩
   have:=d.drew.alloc [(grownCap w (len+n) cap el*i.size,fun q=>if false=true∨q < (len+n)*i.size then bh F (len*i.size) (n*i.size) g q else zf (q % i.size))] el
   exact St.tO this hk
theorem zj (c:St B w0 L w) {t' d:TypeId} (hk:P.underlying t'=some (.slice d)) {a:Option Addr} {ps:Option Nat} {os len cap e ms b ks:Nat} {G:Nat→Value} {rw:Bool} (f:L[ks]? =some ⟨ps,e,ms,G,rw⟩) (hs:ey a ps os len) (ho:os=e+b) (g:b+len≤ms) (h1:∀q,q < len→(G (b+q)).oneCell'=true):
   Src P 1 t' (.slice a len cap) len ((List.range (len*1)).map fun q=>G (b+q)) w:=
 ⟨.inl ⟨d,hk⟩,fun _=>rfl,by rw [Nat.mul_one];exact sb c f hs ho (Nat.le_refl _) g,by rw [Nat.mul_one];exact sb c.drew f hs ho (Nat.le_refl _) g,by simp,fun u hu=>by
   obtain ⟨q,hq,rfl⟩:=List.mem_map.1 hu
   exact h1 q (by simpa using hq)⟩
end run
section step
variable {P:Program} {n:Nat} {K:aW→Env→World→Prop} {l:List It} {O O':aW} {e:Env} {w:World} {i ty:Nat} {d:Tmp} {pos:String} {aft:Array Edge} {gd g:Option (Nat×Bool)}
variable {B:Nat} {w0:aC} {L L':List Rg}
theorem EK (u:St B w0 L w) {t t':TypeId} {x y:Operand} {s o len cap m:Nat} {kd:IntKind} {a:Option Addr} {pb:Option Nat} {F G:Nat→BitVec s} {v:Value} (k:Nat) (he:eT P t=some (1,o,some (VU kd 0#s))) (hg:aI n e g=true)
   (hx:ev n e x= .slice a len cap) (hy:ev n e y=v) (z:L[k]? =some ⟨pb,0,cap,fun q=>VU kd (F q),true⟩) (ho:dI a pb cap) (A:Src P 1 t' v m ((List.range (m*1)).map fun q=>VU kd (G q)) w) (C:len≤cap) (hb:(len+m)*o≤140737488355328) (D:len+m < 9223372036854775808)
   (hO:∀r,av aft O (L.set k r) O')
   (h:∀f j b (F':Nat→BitVec s) w',dI f j b→len+m≤b→(∀q,q < len+m→F' q=bh F len m G q)→St B w0 (L.set k ⟨j,0,b,fun q=>VU kd (F' q),true⟩) w'→aa P n K l O' (cv e (some d) (.slice f (len+m) b)) w'):
   aa P n K (⟨i,false,⟨some d,.call ⟨.builtin .append,#[x,y],#[t,t']⟩,ty,pos,aft,gd⟩,g⟩::l) O e w:=by
 obtain ⟨w',f,j,b,ip,E,fi,H,p⟩:=vq (P:=P) (ty:=ty) (s:=1) (zf:=fun _=>VU kd 0#s) u (hZ he) rfl (fun q hq=>by cases Nat.lt_one_iff.1 hq;rfl) (by rw [Nat.mul_one];exact z) ho A C hb D
 have I:(fun q=>if ip=true∨q < (len+m)*1 then bh (fun q=>VU kd (F q)) (len*1) (m*1) (fun q=>VU kd (G q)) q else VU kd 0#s)=fun q=>VU kd (if ip=true∨q < len+m then bh F len m G q else 0#s):=by
   funext q
   simp only [Nat.mul_one,← o1]
   split <;> rfl
 rw [I,Nat.mul_one] at p
 refine gK hg (w':=w') (v:= .slice f (len+m) b) (kn fun c=>?_) p (hO _) fun w' J=>h f j b _ w' fi H (fun q hq=>?_) J
 · rw [hx,hy]
   simp only [builtin,Sem.run_bind,E]
   rfl
 · rw [if_pos (.inr hq)]
end step
end Go.LW
namespace Go.LW
set_option linter.unusedSimpArgs false
set_option linter.unusedVariables false
set_option linter.unusedSectionVars false
open Go Go.RowKit
def c9 {s:Nat} (n:Nat) (F G:Nat→BitVec s):Bool:=(List.range n).all fun q=>F q==G q
theorem pz {s n:Nat} {F G:Nat→BitVec s}:c9 n F G=true↔∀q,q < n→F q=G q:=by
 unfold c9;simp
def gm (P:Program) (t n:Nat) (kd:IntKind):Bool:=match P.underlying t with
 | some (.array m el)=>m==n && (match P.info? el with | some i=>i.size==1 | none=>false) && (match P.underlying el with | some (.int k)=>k==kd | _=>false) && !P.eqGuardType P.depth t
 | _=>false
theorem oQ {P:Program} {t n:Nat} {kd:IntKind} (h:gm P t n kd=true):∃el i,P.underlying t=some (.array n el)∧P.info? el=some i∧i.size=1∧P.underlying el=some (.int kd)∧P.eqGuardType P.depth t=false:=by
 unfold gm at h
 cases hu:P.underlying t with
 | none=>rw [hu] at h;cases h
 | some b=>
   rw [hu] at h
   cases b <;> try (cases h;done)
   rename_i m el
   simp only [Bool.and_eq_true,beq_iff_eq,Bool.not_eq_true'] at h
   obtain ⟨⟨⟨h1,h2⟩,h3⟩,c⟩:=h
   subst h1
   cases hi:P.info? el with
   | none=>rw [hi] at h2;cases h2
   | some i=>
     rw [hi] at h2
     simp only [beq_iff_eq] at h2
     cases a:P.underlying el with
     | none=>rw [a] at h3;cases h3
     | some d2=>
       rw [a] at h3
       cases d2 <;> try (cases h3;done)
       rename_i k
       simp only [beq_iff_eq] at h3
       subst h3
       exact ⟨el,i,rfl,hi,h2,a,c⟩
section run
variable {P:Program}
theorem su {s:Nat} (d:Nat) {el:TypeId} {kd:IntKind} (he:P.underlying el=some (.int kd)) (xs a:Array Value) (F G:Nat→BitVec s) (w:World):∀is:List Nat,(∀i∈is,xs[i]? =some (VU kd (F i))∧a[i]? =some (VU kd (G i)))→(Op.eqItems (d+1) el 1 xs a is).run P w= .ok (is.all fun q=>F q==G q) w
 | [],_=>by simp [Op.eqItems]
 | i::is,h=>by
   obtain ⟨h1,h2⟩:=h i List.mem_cons_self
   have b:=su d he xs a F G w is (fun j c=>h j (List.mem_cons_of_mem _ c))
   have e:(part el xs (i*1)).run P w= .ok (VU kd (F i)) w:=by
     simp [part,isAgg,run_underlying he,h1]
   have f:(part el a (i*1)).run P w= .ok (VU kd (G i)) w:=by
     simp [part,isAgg,run_underlying he,h2]
   have g:(Op.equalIn (d+1) el (VU kd (F i)) (VU kd (G i))).run P w= .ok (F i==G i) w:=by
     rw [run_equalIn_int w d el kd kd _ _ he]
     congr 1
     rw [Bool.eq_iff_iff,beq_iff_eq,beq_iff_eq,BitVec.toNat_eq]
     omega
   simp only [Op.eqItems,Sem.run_bind,e,f,g,Result.andThen_ok,List.all_cons]
   cases hb:(F i==G i)
   · simp
   · simpa using b
theorem uf {s n:Nat} {t:TypeId} {kd:IntKind} (h:gm P t n kd=true) (F G:Nat→BitVec s) (w:World):(Op.equal t (AG [(n,fun q=>VU kd (F q))]) (AG [(n,fun q=>VU kd (G q))])).run P w= .ok (c9 n F G) w:=by
 obtain ⟨el,i,hu,hi,hs,hk,_⟩:=oQ h
 unfold Op.equal AG
 rw [show Op.maxDepth=9998+1+1 by rfl,run_equalIn_array w (9998+1) _ _ hu hi]
 have hc:P.cellsOf el=1:=by simp [Program.cellsOf,hi,hs]
 rw [hc]
 refine su 9998 hk _ _ F G w _ fun j a=>?_
 have a:=List.mem_range.1 a
 simp [eg,a]
theorem ue {t:TypeId} {op:BinOp} {x y:Operand} {a b:Array Value} (h:P.eqGuardType P.depth t=false) (w:World):(eqGuard op t x y (.agg a) (.agg b)).run P w= .ok () w:=by
 have hp:∀w:World,(program:Sem Program).run P w= .ok P w:=fun _=>rfl
 unfold eqGuard
 cases op <;> simp [h,hp]
end run
section step
variable {P:Program} {n:Nat} {K:aW→Env→World→Prop} {l:List It} {O O':aW} {e:Env} {w:World} {i ty:Nat} {d:Tmp} {pos:String} {aft:Array Edge} {gd g:Option (Nat×Bool)}
theorem AI {t yt:TypeId} {x y:Operand} {s m:Nat} {kd:IntKind} {F G:Nat→BitVec s} (ha:gm P t m kd=true) (hg:aI n e g=true) (hx:ev n e x=AG [(m,fun q=>VU kd (F q))]) (hy:ev n e y=AG [(m,fun q=>VU kd (G q))])
   (h:aa P n K l O (an e d (.bool (c9 m F G))) w):aa P n K (⟨i,true,⟨some d,.binOp .eql t x y yt,ty,pos,aft,gd⟩,g⟩::l) O e w:=
 aa.val hg (fun w=>b8 (by
   rw [hx,hy,Sem.run_bind]
   have h1:(eqGuard .eql t x y (AG [(m,fun q=>VU kd (F q))]) (AG [(m,fun q=>VU kd (G q))])).run P w= .ok () w:=ue (oQ ha).choose_spec.choose_spec.2.2.2.2 w
   rw [h1]
   simp only [Result.andThen_ok]
   have h2:=uf ha F G w
   unfold AG at h2 ⊢
   simp only [binOp,Sem.run_bind,h2,Result.andThen_ok,Sem.run_pure])) h
theorem AT {t yt:TypeId} {x y:Operand} {s m:Nat} {kd:IntKind} {F G:Nat→BitVec s} (ha:gm P t m kd=true) (hg:aI n e g=true) (hx:ev n e x=AG [(m,fun q=>VU kd (F q))]) (hy:ev n e y=AG [(m,fun q=>VU kd (G q))])
   (h:aa P n K l O (an e d (.bool (!c9 m F G))) w):aa P n K (⟨i,true,⟨some d,.binOp .neq t x y yt,ty,pos,aft,gd⟩,g⟩::l) O e w:=
 aa.val hg (fun w=>b8 (by
   rw [hx,hy,Sem.run_bind]
   have h1:(eqGuard .neq t x y (AG [(m,fun q=>VU kd (F q))]) (AG [(m,fun q=>VU kd (G q))])).run P w= .ok () w:=ue (oQ ha).choose_spec.choose_spec.2.2.2.2 w
   rw [h1]
   simp only [Result.andThen_ok]
   have h2:=uf ha F G w
   unfold AG at h2 ⊢
   simp only [binOp,Sem.run_bind,h2,Result.andThen_ok,Sem.run_pure])) h
section arr
variable {t yt:TypeId} {x y:Operand} {s m:Nat} {kd:IntKind} {F G:Nat→BitVec s} (ha:gm P t m kd=true) (hg:aI n e g=true) (hx:ev n e x=AG [(m,fun q=>VU kd (F q))]) (hy:ev n e y=AG [(m,fun q=>VU kd (G q))])
include ha hg hx hy
end arr
theorem Fi {t:TypeId} {x:Operand} {m len cap o b:Nat} {a:Option Addr} {el:TypeId} (hu:P.underlying t=some (.array m el)) (hg:aI n e g=true) (hx:ev n e x= .slice a len cap) (hs:ey a (some b) o len) (hm:0 < m∧m≤len)
   (h:aa P n K l O (an e d (.pointer (some ⟨b,o,none⟩))) w):aa P n K (⟨i,true,⟨some d,.sliceToArrayPointer t x,ty,pos,aft,gd⟩,g⟩::l) O e w:=
 aa.val hg (fun w=>b8 (by
   obtain ⟨c,h1,h2⟩:=hs (by omega)
   obtain rfl:b=c:=Option.some.inj h1
   rw [hx,h2]
   simp only [Instr.arrayAt,Sem.run_bind,run_underlying hu w,Result.andThen_ok,if_neg (show¬len < m by omega),Sem.run_pure])) h
end step
def lit {s:Nat} (l:List (BitVec s)) (q:Nat):BitVec s:=l.getD q 0#s
theorem Bs.own {L:List Rg} (k:Nat) {a:Option Addr} {pb:Option Nat} {len cap:Nat} {F:Nat→BitVec 8} (b:L[k]? =some ⟨pb,0,cap,fun q=>VU .u8 (F q),true⟩) (ho:dI a pb cap) (hl:len≤cap):Bs L a len cap F:=
 ⟨k,0,cap,0,0,pb,F,true,b,ho.sl hl,rfl,by omega,hl,fun q _=>by rw [Nat.zero_add]⟩
theorem Bs.le {L:List Rg} {a:Option Addr} {len cc:Nat} {M:Nat→BitVec 8} (h:Bs L a len cc M):len≤cc:=by
 obtain ⟨_,_,_,_,_,_,_,_,_,_,_,_,b,_⟩:=h;exact b
theorem dI.pos {a:Option Addr} {pb:Option Nat} {cap:Nat} (h:dI a pb cap) (hc:0 < cap):∃b,pb=some b∧a=some ⟨b,0,none⟩:=by
 rcases h with ⟨h1,_⟩ | h1
 · omega
 · exact h1
theorem y6 {P:Program} {t sz:Nat} (h:dc P t sz=true):∃el,P.underlying t=some (.slice el):=by
 obtain ⟨el,hu,_⟩:=j4 h
 exact ⟨el,hu⟩
theorem E1 {P:Program} {B:Nat} {w0:aC} {w:World} {L:List Rg} (b:St B w0 L w) {t' sz:TypeId} (hk:dc P t' sz=true) {a:Option Addr} {len cc:Nat} {M:Nat→BitVec 8} (hb:Bs L a len cc M):Src P 1 t' (.slice a len cc) len ((List.range (len*1)).map fun q=>VU .u8 (M q)) w:=by
 obtain ⟨f,g,ms,c,os,ps,G,rw,h1,h2,h3,d,h,e⟩:=hb
 obtain ⟨el,hu⟩:=y6 hk
 have:=zj (P:=P) (cap:=cc) b hu h1 h2 h3 d (fun _ _=>rfl)
 have hm:(List.range (len*1)).map (fun q=>VU .u8 (M q))=(List.range (len*1)).map (fun q=>VU .u8 (G (c+q))):=List.map_congr_left fun q hq=>by
   have:=List.mem_range.1 hq
   rw [e q (by omega)]
 rw [hm];exact this
theorem St.BH {B:Nat} {w0:aC} {w:World} {L:List Rg} (h:St B w0 L w):St B w0 (⟨none,0,0,fun _=>VU .u8 0#8,true⟩::L) w:=h.hP _
theorem dI.nil:dI none none 0:= .inl ⟨rfl,rfl,rfl⟩
end Go.LW
namespace Go.LW
set_option linter.unusedSimpArgs false
set_option linter.unusedVariables false
set_option linter.unusedSectionVars false
open Go Go.RowKit
def gp (k:IntKind) (w:World) (a:Option Addr) (len cap:Nat) (zs:List Int):Prop:=
 (a=none∧len=0∧cap=0∧zs= [])∨
 ∃x,a=some x∧len≤cap∧cap≤maxLen∧zs.length=cap∧(∀i,i < zs.length→w.cell? (x.add i)=some (.int k (zs.getD i 0)))∧∀n∈zs,(Lit.int k n).wf=true
theorem gp.le {k:IntKind} {w:World} {a:Option Addr} {len cap:Nat} {zs:List Int} (h:gp k w a len cap zs):len≤cap∧cap≤maxLen:=by
 rcases h with ⟨_,rfl,rfl,_⟩ | ⟨x,_,h1,h2,_⟩
 · exact ⟨Nat.le_refl _,by decide⟩
 · exact ⟨h1,h2⟩
theorem vt:maxLen=9223372036854775807∨maxLen < 9223372036854775807:=by decide
theorem Dq {w:World} {x:Addr} {v:Value} (h:w.cell? x=some v):x.spot=none:=by
 unfold World.cell? at h
 cases hs:x.spot with
 | none=>rfl
 | some s=>
   rw [hs] at h
   split at h
   · simp at h
   · cases h
theorem gp.rg {k:IntKind} {w:World} {a:Option Addr} {len cap:Nat} {zs:List Int} (h:gp k w a len cap zs):∃(p:Option Nat) (off:Nat),(Rg.mk p off cap (fun q=> .int k (zs.getD q 0)) false).at w∧ey a p off len:=by
 rcases h with ⟨rfl,rfl,rfl,rfl⟩ | ⟨x,rfl,h1,h2,h3,d,e⟩
 · exact ⟨none,0,fun j c=>absurd c (by simp),fun h=>absurd h (by omega)⟩
 · by_cases f:cap=0
   · exact ⟨none,0,fun j c=>absurd c (by simp;omega),fun h=>absurd h (by omega)⟩
   · have hx:=Dq (by have:=d 0 (by omega);rwa [Addr.add_zero'] at this)
     obtain ⟨b,o,s⟩:=x
     simp only at hx
     subst hx
     refine ⟨some b,o,fun j c=>⟨b,rfl,?_⟩,fun _=>⟨b,rfl,rfl⟩⟩
     have:=d j (by rw [h3];exact c)
     rwa [Addr.add_mid] at this
def c5 (L:List Rg):Prop:=∀s∈L,s.rw=false
theorem c5.nil:c5 []:=fun s hs=>by cases hs
theorem c5.cons {r:Rg} {L:List Rg} (h:c5 L) (a:r.rw=false):c5 (r::L):=fun s hs=>by
 rcases List.mem_cons.1 hs with rfl | hs
 · exact a
 · exact h s hs
section st
variable {B:Nat} {w0:aC} {w:World} {L:List Rg}
theorem St.nI (h:St B w0 L w) (a:c5 L) {p:Option Nat} {off n:Nat} {f:Nat→Value} (ha:(Rg.mk p off n f false).at w):St B w0 (⟨p,off,n,f,false⟩::L) w∧c5 (⟨p,off,n,f,false⟩::L):=
 ⟨h.ro ha (fun s hs hw=>by rw [a s hs] at hw;cases hw),a.cons rfl⟩
theorem D_ {p:Option Nat} {off n:Nat} {f g:Nat→Value} {rw:Bool} {w:World} (h:(Rg.mk p off n f rw).at w) (c:∀j,j < n→f j=g j):(Rg.mk p off n g rw).at w:=fun j a=>by
 obtain ⟨b,h1,h2⟩:=h j a
 exact ⟨b,h1,by rw [h2];exact congrArg some (c j a)⟩
theorem wf_u8 {n:Int} (h:(Lit.int .u8 n).wf=true):0≤n∧n < 256:=by
 simp [Lit.wf,IntKind.min,IntKind.max,IntKind.signed,IntKind.bits] at h
 omega
theorem gp.bytes {a:Option Addr} {len cap:Nat} {zs:List Int} (b:gp .u8 w a len cap zs) (h:St B w0 L w) (c:c5 L):∃r:Rg,St B w0 (r::L) w∧c5 (r::L)∧Bs (r::L) a len cap (fun q=>BitVec.ofInt 8 (zs.getD q 0)):=by
 obtain ⟨p,off,h1,h2⟩:=b.rg
 have h3:(Rg.mk p off cap (fun q=>VU .u8 (BitVec.ofInt 8 (zs.getD q 0))) false).at w:=D_ h1 fun j d=>by
   have hw:0≤zs.getD j 0∧zs.getD j 0 < 256:=by
     rcases b with ⟨_,_,rfl,_⟩ | ⟨x,_,_,_,hl,_,e⟩
     · exact absurd d (by omega)
     · have:zs.getD j 0∈zs:=by
         rw [List.getD_eq_getElem?_getD,List.getElem?_eq_getElem (by omega)]
         exact List.getElem_mem _
       exact wf_u8 (e _ this)
   show Value.int .u8 _=Value.int .u8 _
   congr 1
   rw [BitVec.toNat_ofInt]
   omega
 obtain ⟨f,g⟩:=h.nI c h3
 exact ⟨_,f,g,0,off,cap,0,off,p,_,false,rfl,h2,rfl,by have:=b.le;omega,b.le.1,fun q _=>by rw [Nat.zero_add]⟩
def Is (L:List Rg) (a:Option Addr) (len:Nat) (z:List Int):Prop:=
 ∃(i:Nat) (p:Option Nat) (o m:Nat),L[i]? =some ⟨p,o,m,fun q=> .int .i64 (z.getD q 0),false⟩∧ey a p o len∧len≤m∧len < 9223372036854775808∧∀q,q < len→ -9223372036854775808≤z.getD q 0∧z.getD q 0≤9223372036854775807
theorem Is.app {a:Option Addr} {len:Nat} {z:List Int} (h:Is L a len z) (C:List Rg):Is (C ++L) a len z:=by
 obtain ⟨i,p,o,m,h1,h2⟩:=h
 exact ⟨C.length+i,p,o,m,by rw [List.getElem?_append_right (Nat.le_add_right _ _),Nat.add_sub_cancel_left];exact h1,h2⟩
theorem St.rW {P:Program} (h:St B w0 L w) (b:c5 L) {name:String} {k:IntKind} {zs:List Int} {g s:Nat} {F:Nat→BitVec s} (c:Lib.TabIs P w name k zs) (hg:P.globalNamed name=some g) (n:Nat) (d:zs.length=n) (hF:(List.range n).all (fun i=>zs.getD i 0==((F i).toNat:Int))=true):
   St B w0 (⟨some g,0,n,fun q=>VU k (F q),false⟩::L) w∧c5 (⟨some g,0,n,fun q=>VU k (F q),false⟩::L):=
 h.nI b fun j a=>⟨g,rfl,by
   have a:j < n:=a
   have h1:=c.cell hg j (by omega)
   rw [Nat.zero_add,h1]
   have:=List.all_eq_true.1 hF j (List.mem_range.2 a)
   rw [beq_iff_eq] at this
   rw [this]⟩
end st
end Go.LW
namespace Go.LW
set_option linter.unusedSimpArgs false
set_option linter.unusedVariables false
set_option linter.unusedSectionVars false
open Go Go.RowKit
abbrev af:=BitVec 8
theorem sx {s n:Nat} (M:Nat→BitVec s):∀q,q < n→lit ((List.range n).map M) q=M q:=fun q hq=>by
 unfold lit;simp [List.getD_eq_getElem?_getD,hq]
theorem sF {s:Nat} (X Y:List (BitVec s)) (q:Nat):lit (X ++Y) q=if q < X.length then lit X q else lit Y (q - X.length):=by
 unfold lit
 rw [List.getD_eq_getElem?_getD,List.getElem?_append]
 split <;> rw [List.getD_eq_getElem?_getD]
theorem om {s:Nat} (X:List (BitVec s)):(List.range X.length).map (lit X)=X:=by
 apply List.ext_getElem?
 intro q
 by_cases h:q < X.length
 · simp [lit,h]
 · simp [h]
def aT {α:Type} (X:List α) (lo hi:Nat):List α:=(X.take hi).drop lo
theorem fv {α:Type} {X:List α} {lo hi:Nat} (h:hi≤X.length):(aT X lo hi).length=hi - lo:=by
 unfold aT;simp;omega
theorem mY {s:Nat} {X:List (BitVec s)} {lo hi q:Nat} (h:hi≤X.length) (hq:q < hi - lo):lit (aT X lo hi) q=lit X (lo+q):=by
 unfold lit aT
 simp [List.getD_eq_getElem?_getD,List.getElem?_drop,List.getElem?_take,show lo+q < hi by omega]
theorem zl {α:Type} {X:List α} {a b c:Nat} (h:a≤b∧b≤c∧c≤X.length):aT X a b ++aT X b c=aT X a c:=by
 apply List.ext_getElem?
 intro q
 have h1:(aT X a b).length=b - a:=fv (by omega)
 rw [List.getElem?_append,h1]
 unfold aT
 simp only [List.getElem?_drop,List.getElem?_take]
 split
 · rw [if_pos (by omega),if_pos (by omega)]
 · rw [show b+(q - (b - a))=a+q by omega]
theorem Ck {α:Type} (X:List α):aT X 0 X.length=X:=by unfold aT;simp
theorem x7 {α:Type} (X:List α) (n:Nat):aT X 0 n=X.take n:=by unfold aT;simp
theorem Bs.list {L:List Rg} {a:Option Addr} {len cc:Nat} {M:Nat→af} (h:Bs L a len cc M):∃X:List af,X.length=len∧Bs L a len cc (lit X):=
 ⟨(List.range len).map M,by simp,h.congr fun q hq=>sx M q hq⟩
theorem Bs.aT {L:List Rg} {a:Option Addr} {len cc:Nat} {X:List af} (h:Bs L a len cc (lit X)) (hl:X.length=len) {lo hi:Nat} (hb:lo≤hi∧hi≤len):Bs L (if cc=lo then a else a.map (·.add (lo*1))) (hi - lo) (cc - lo) (lit (aT X lo hi)):=
 (h.slice hb).congr fun q hq=>mY (by omega) hq
theorem Bs.take {L:List Rg} {a:Option Addr} {len cc:Nat} {X:List af} (h:Bs L a len cc (lit X)) (hl:X.length=len) {n:Nat} (f:n≤len):Bs L a n cc (lit (X.take n)):=by
 obtain ⟨b,c,ms,d,os,ps,G,rw,h1,h2,h3,g,i,e⟩:=h
 refine ⟨b,c,ms,d,os,ps,G,rw,h1,fun j=>h2 (by omega),h3,by omega,by omega,fun q hq=>?_⟩
 rw [← e q (by omega),← x7,mY (by omega) (by omega),Nat.zero_add]
section step
variable {P:Program} {n:Nat} {K:aW→Env→World→Prop} {l:List It} {O O':aW} {e:Env} {w:World} {i ty:Nat} {d:Tmp} {pos:String} {aft:Array Edge} {gd g:Option (Nat×Bool)}
variable {B:Nat} {w0:aC} {L L':List Rg}
theorem FI (j:St B w0 L w) {t t' sz:TypeId} {x y:Operand} {len cap m o:Nat} {a p:Option Addr} {pb:Option Nat} {F:Nat→af} {X Y:List af} (k:Nat) (he:eT P t=some (1,1,some (VU .u8 0#8))) (u:dc P t' sz=true) (hg:aI n e g=true)
   (hx:ev n e x= .slice a len cap) (hy:ev n e y= .slice p m o) (v:L[k]? =some ⟨pb,0,cap,fun q=>VU .u8 (F q),true⟩) (ho:dI a pb cap) (z:len≤cap) (hX:X.length=len) (hF:∀q,q < len→lit X q=F q) (A:Bs L p m o (lit Y)) (C:Y.length=m) (hb:len+m≤140737488355328)
   (hO:∀r,av aft O (L.set k r) O')
   (h:∀c f b (F':Nat→af) w',dI c f b→(X ++Y).length≤b→(∀q,q < (X ++Y).length→lit (X ++Y) q=F' q)→St B w0 (L.set k ⟨f,0,b,fun q=>VU .u8 (F' q),true⟩) w'→aa P n K l O' (cv e (some d) (.slice c (X ++Y).length b)) w'):
   aa P n K (⟨i,false,⟨some d,.call ⟨.builtin .append,#[x,y],#[t,t']⟩,ty,pos,aft,gd⟩,g⟩::l) O e w:=by
 subst hX C
 refine EK j k he hg hx hy v ho (E1 j u A) z (by omega) (by omega) hO fun c f b F' w' fi hc s D=>?_
 have hlen:X.length+Y.length=(X ++Y).length:=List.length_append.symm
 rw [hlen] at s hc
 rw [hlen]
 refine h c f b F' w' fi hc (fun q hq=>?_) D
 rw [s q hq,sF]
 split
 · rw [c7 _ _ _ _ _ (by omega)];exact hF q (by omega)
 · rw [eh _ _ _ _ _ (by omega)]
end step
end Go.LW
namespace Go.LW
set_option linter.unusedSimpArgs false
set_option linter.unusedVariables false
set_option linter.unusedSectionVars false
open Go Go.RowKit
def bV (X:List af):ByteArray:=strOfNums (X.map fun b=>(b.toNat:Int))
theorem xr {α β:Type} {f:α→β} (hf:∀a b,f a=f b→a=b):∀ {X Y:List α},X.map f=Y.map f→X=Y
 | [],[],_=>rfl
 | [],_::_,h=>by cases h
 | _::_,[],h=>by cases h
 | a::X,b::Y,h=>by
   simp only [List.map_cons,List.cons.injEq] at h
   rw [hf a b h.1,xr hf h.2]
theorem Dk {X Y:List af}:bV X=bV Y↔X=Y:=by
 constructor
 · intro h
   have h1:(bV X).data.toList=(bV Y).data.toList:=by rw [h]
   unfold bV at h1
   rw [strOfNums_data,strOfNums_data,List.map_map,List.map_map] at h1
   refine xr ?_ h1
   intro a b c
   have h2:(UInt8.ofNat a.toNat).toNat=(UInt8.ofNat b.toNat).toNat:=congrArg UInt8.toNat c
   have ha:=a.isLt
   have hb:=b.isLt
   simp at h2
   exact BitVec.eq_of_toNat_eq (by omega)
 · rintro rfl;rfl
section step
variable {P:Program} {n:Nat} {K:aW→Env→World→Prop} {l:List It} {O O':aW} {e:Env} {w:World} {i ty:Nat} {d:Tmp} {pos:String} {aft:Array Edge} {gd g:Option (Nat×Bool)}
variable {B:Nat} {w0:aC} {L L':List Rg}
theorem rM {a:Builtin} {x y:Operand} {ρ:Operand→Value} {at':Array TypeId} {ty:TypeId} {v:Value} {dst:Option Tmp} {w w':World}
   (h:∀cs,(builtin a at' ty cs #[ρ x,ρ y]).run P w= .ok (.value v) w'):(execOp ρ ⟨dst,.call ⟨.builtin a,#[x,y],at'⟩,ty,pos,aft,gd⟩).run P w= .ok (.value v) w':=by
 have b:Array.map ρ #[x,y]= #[ρ x,ρ y]:=by simp
 simp only [execOp,resolve,Sem.run_bind,Sem.run_pure,Result.andThen,invoke,b]
 exact h _
theorem F9 {at':Array TypeId} {x y:Operand} {a b:Nat} (hg:aI n e g=true) (hx:ev n e x=VN a) (hy:ev n e y=VN b) (h:aa P n K l O (an e d (VN (min a b))) w):
   aa P n K (⟨i,true,⟨some d,.call ⟨.builtin .min,#[x,y],at'⟩,ty,pos,aft,gd⟩,g⟩::l) O e w:=
 aa.val hg (fun w=>rM (P:=P) fun cs=>by
   rw [hx,hy]
   simp only [builtin,Sem.run_bind,Builtin.min_,List.foldlM_cons,List.foldlM_nil,Builtin.min2,Sem.run_pure,Result.andThen_ok]
   have c:(if ((b:Int) < (a:Int)) then (b:Int) else (a:Int))=((min a b:Nat):Int):=by
     split <;> omega
   rw [c]) h
theorem CG {op:BinOp} {t yt:TypeId} {x y:Operand} {ρ:Operand→Value} {A B:ByteArray} {v:Value} {dst:Option Tmp} {w:World} (hx:ρ x= .string A) (hy:ρ y= .string B) (h:(Op.stringOp op A B).run P w= .ok v w) (a:op= .eql∨op= .neq):
   (execOp ρ ⟨dst,.binOp op t x y yt,ty,pos,aft,gd⟩).run P w= .ok (.value v) w:=by
 refine b8 ?_
 rw [hx,hy]
 have hq:(eqGuard op t x y (.string A) (.string B)).run P w= .ok () w:=by
   unfold eqGuard;cases op <;> rfl
 rw [Sem.run_bind,hq]
 rcases a with rfl | rfl <;> exact h
theorem toList_inj {A B:ByteArray}:(A.toList==B.toList)=decide (A=B):=by
 rw [Bool.eq_iff_iff,beq_iff_eq,decide_eq_true_iff]
 constructor
 · intro h
   rw [ByteArray.toList_eq,ByteArray.toList_eq] at h
   exact ByteArray.ext (Array.toList_inj.1 h)
 · rintro rfl;rfl
theorem Ce {t yt:TypeId} {x y:Operand} {X Y:List af} (hg:aI n e g=true) (hx:ev n e x= .string (bV X)) (hy:ev n e y= .string (bV Y))
   (h:aa P n K l O (an e d (.bool (decide (X=Y)))) w):aa P n K (⟨i,true,⟨some d,.binOp .eql t x y yt,ty,pos,aft,gd⟩,g⟩::l) O e w:=
 aa.val hg (fun w=>CG hx hy (by
   simp only [Op.stringOp,Sem.run_pure,toList_inj,Dk]) (.inl rfl)) h
end step
end Go.LW
namespace Go.LW
set_option linter.unusedSimpArgs false
set_option linter.unusedVariables false
set_option linter.unusedSectionVars false
open Go Go.RowKit
theorem St.pw {B:Nat} {w0:aC} {w:World} {L:List Rg} (h:St B w0 L w) (m:Nat) (f:Nat→Value) (T:TypeId) (a:Nat×Nat):St B w0 (⟨some w.heap.size,0,m,f,false⟩::L) (w.alloc (.cells (aS [(m,f)]).toArray T a)):=by
 have hb:Blw w.heap.size w (w.alloc (.cells (aS [(m,f)]).toArray T a)):=(Blw.refl _ _).alloc (Nat.le_refl _) _
 have d:(w.alloc (.cells (aS [(m,f)]).toArray T a)).heap[w.heap.size]? =some (.cells (aS [(m,f)]).toArray T a):=heap_alloc_new _ _
 refine (h.later hb).ro (fun j b=>⟨w.heap.size,rfl,?_⟩) (fun s hs _ _=>?_)
 · have b:j < m:=b
   simp only [World.cell?,d]
   simp [eg,b]
 · by_cases c:s.n=0
   · exact .inr (.inr (.inr (.inr c)))
   · refine .inl fun he=>?_
     have:=Rg.k9 (h.at_ s hs) he.symm c
     omega
section step
variable {P:Program} {n:Nat} {K:aW→Env→World→Prop} {l:List It} {O O':aW} {e:Env} {w:World} {i i2 ty qk:Nat} {d d2:Tmp} {pos oa:String} {aft pL:Array Edge} {gd pD g g2:Option (Nat×Bool)}
variable {B:Nat} {w0:aC} {L L':List Rg}
end step
end Go.LW
namespace Go.LW
set_option linter.unusedSimpArgs false
set_option linter.unusedVariables false
set_option linter.unusedSectionVars false
open Go Go.RowKit
theorem zd {α:Type} {f:Nat→α} {j a:Nat} {g b:Nat→α} (h:∀q,q < a→g q=b q):bh f j a g=bh f j a b:=by
 funext q
 unfold bh
 split
 · exact h _ (by omega)
 · rfl
section st
variable {B:Nat} {w0:aC} {w:World} {L:List Rg}
end st
def dl (m:Nat) (G:Nat→af):List af:=(List.range m).map G
theorem ea (m:Nat) (G:Nat→af):(dl m G).length=m:=by simp [dl]
theorem qb {m:Nat} (G:Nat→af) {q:Nat} (h:q < m):lit (dl m G) q=G q:=sx G q h
section step
variable {P:Program} {n:Nat} {K:aW→Env→World→Prop} {l:List It} {O O':aW} {e:Env} {w:World} {i ty:Nat} {d:Tmp} {pos:String} {aft:Array Edge} {gd g:Option (Nat×Bool)}
variable {B:Nat} {w0:aC} {L L':List Rg}
theorem js (k:St B w0 L w) {t t':TypeId} {x y:Operand} {f as:Option Addr} {b:Option Nat} {j ld cd ls cs c md jd:Nat} {F:Nat→af} {X:List af} (kd a:Nat) (hu:dc P t 1=true) (hg:aI n e g=true)
   (hx:ev n e x= .slice f ld cd) (hy:ev n e y= .slice as ls cs)
   (m:L[kd]? =some ⟨b,c,md,fun q=>VU .u8 (F q),true⟩) (o:Bs L as ls cs (lit X)) (p:ey f b j ld) (r:j=c+jd) (s:a=min ls ld) (u:jd+a≤md)
   (hO:av aft O (L.set kd ⟨b,c,md,fun q=>VU .u8 (bh F jd a (lit X) q),true⟩) O')
   (h:∀w',St B w0 (L.set kd ⟨b,c,md,fun q=>VU .u8 (bh F jd a (lit X) q),true⟩) w'→aa P n K l O' (cv e (some d) (VN a)) w'):
   aa P n K (⟨i,false,⟨some d,.call ⟨.builtin .copy,#[x,y],#[t,t']⟩,ty,pos,aft,gd⟩,g⟩::l) O e w:=by
 obtain ⟨v,C,ms,z,os,ps,G,rw,h1,h2,h3,D,E,A⟩:=o
 have hc:bh F jd a (lit X)=bh F jd a (fun q=>G (z+q)):=zd fun q hq=>A q (by omega)
 rw [hc] at hO h
 exact E7 k kd v a hu hg hx hy m h1 p h2 r h3 s u (by omega) hO h
end step
end Go.LW
