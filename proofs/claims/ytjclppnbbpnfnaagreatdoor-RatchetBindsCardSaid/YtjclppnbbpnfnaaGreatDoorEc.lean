import Derived.Test.YtjclppnbbpnfnaaGreatDoorEb
import Derived.Lib.MakeNoZero
import Derived.Laws.IdiomStrings
import Derived.OpenShut
import Derived.ChangeSlices
import Derived.SizedLaws
import Derived.Lib.BytesEntry
namespace Go.LW
set_option linter.unusedSimpArgs false
set_option linter.unusedVariables false
set_option linter.unusedSectionVars false
open Go Go.RowKit
def gP (P:Program) (d:Nat) (t:TypeId) (v v':Value) (b:Bool):Prop:=∀w,(Op.equalIn d t v v').run P w= .ok b w
def n3 (P:Program) (t:TypeId) (k:IntKind):Bool:=match P.underlying t with | some (.int q)=>q==k | _=>false
theorem rL {P:Program} {t:TypeId} {k:IntKind} (h:n3 P t k=true):P.underlying t=some (.int k):=by
 unfold n3 at h
 cases hu:P.underlying t with
 | none=>rw [hu] at h;cases h
 | some q=>
   rw [hu] at h
   cases q <;> try (cases h;done)
   simp only [beq_iff_eq] at h
   subst h;rfl
section
variable {P:Program} {d:Nat} {t:TypeId}
theorem gP.int {k:IntKind} {a b:Int} (h:n3 P t k=true):gP P (d+1) t (.int k a) (.int k b) (decide (a=b)):=fun w=>by
 rw [run_equalIn_int w d t k k a b (rL h)]
 congr 1
theorem gP.bool {a b:Bool} (h:P.underlying t=some .bool):gP P (d+1) t (.bool a) (.bool b) (a==b):=fun w=>run_equalIn_bool' w d t a b h
theorem gP.arr {s n:Nat} {kd:IntKind} {F G:Nat→BitVec s} (h:gm P t n kd=true):gP P (d+1+1) t (AG [(n,fun q=>VU kd (F q))]) (AG [(n,fun q=>VU kd (G q))]) (c9 n F G):=fun w=>by
 obtain ⟨el,i,hu,hi,hs,hk,_⟩:=oQ h
 unfold AG
 rw [run_equalIn_array w (d+1) _ _ hu hi]
 have hc:P.cellsOf el=1:=by simp [Program.cellsOf,hi,hs]
 rw [hc]
 refine su d hk _ _ F G w _ fun j a=>?_
 have a:=List.mem_range.1 a
 simp [eg,a]
inductive iL (P:Program) (d:Nat) (ps qs:PS):List (TypeId×Nat)→Bool→Prop
 | nil:iL P d ps qs [] true
 | agg {ft off:Nat} {fs:List (TypeId×Nat)} {b r:Bool} (A Y C A' Y' C':PS) (hp:ps=A ++Y ++C) (hq:qs=A' ++Y' ++C') (ho:(A.map (·.1)).sum=off) (fi:(A'.map (·.1)).sum=off)
     (ha:cz P ft (Y.map (·.1)).sum=true) (oH:cz P ft (Y'.map (·.1)).sum=true) (h:gP P d ft (AG Y) (AG Y') b) (t:iL P d ps qs fs r):iL P d ps qs ((ft,off)::fs) (b && r)
 | one {ft off:Nat} {fs:List (TypeId×Nat)} {b r:Bool} {v v':Value} (A C A' C':PS) (F F':Nat→Value) (hp:ps=A ++ [(1,F)] ++C) (hq:qs=A' ++ [(1,F')] ++C') (ho:(A.map (·.1)).sum=off) (fi:(A'.map (·.1)).sum=off)
     (ha:dC P ft=true) (hv:F 0=v) (e':F' 0=v') (h:gP P d ft v v' b) (t:iL P d ps qs fs r):iL P d ps qs ((ft,off)::fs) (b && r)
theorem vz {ft off:Nat} {A C:PS} {F:Nat→Value} {v:Value} (ha:dC P ft=true) (ho:(A.map (·.1)).sum=off) (hv:F 0=v) (w:World):(part ft (aS (A ++ [(1,F)] ++C)).toArray off).run P w= .ok v w:=by
 unfold part
 rw [Sem.run_bind,EW ha w]
 have:(aS (A ++ [(1,F)] ++C)).toArray[off]? =some v:=by
   rw [ix,ix,← ho,← fj]
   simp [eg,hv]
 simp only [Result.andThen,Bool.false_eq_true,if_false,this,Sem.run_pure]
theorem vb {ft off:Nat} {A Y C:PS} (ha:cz P ft (Y.map (·.1)).sum=true) (ho:(A.map (·.1)).sum=off) (w:World):(part ft (aS (A ++Y ++C)).toArray off).run P w= .ok (AG Y) w:=by
 rw [ix,ix,← ho,← fj]
 exact tK ha rfl (fj _) w
theorem iL.run {ps qs:PS}:∀ {l:List (TypeId×Nat)} {b:Bool},iL P d ps qs l b→∀(fs:List Field),fs.map (fun f=>(f.type,f.offset))=l→(∀f∈fs,f.name≠ "_")→∀w,(Op.eqFields d (aS ps).toArray (aS qs).toArray fs).run P w= .ok b w:=by
 intro l b h
 induction h with
 | nil=>
   intro fs hl _ w
   obtain rfl:fs= []:=List.map_eq_nil_iff.1 hl
   simp [Op.eqFields]
 | @agg ft off l b r A Y C A' Y' C' hp hq ho fi ha oH h t i=>
   intro fs hl a w
   cases fs with
   | nil=>cases hl
   | cons f fs=>
     simp only [List.map_cons,List.cons.injEq,Prod.mk.injEq] at hl
     obtain ⟨⟨rfl,rfl⟩,hl⟩:=hl
     simp only [Op.eqFields,if_pos (a f List.mem_cons_self),Sem.run_bind]
     have c:=vb (P:=P) (C:=C) ha ho w
     have e:=vb (P:=P) (C:=C') oH fi w
     rw [← hp] at c
     rw [← hq] at e
     simp only [c,e,Result.andThen_ok,h w]
     cases b with
     | true=>
       simp only [Bool.not_true,Bool.false_eq_true,if_false,Bool.true_and]
       exact i fs hl (fun g hg=>a g (List.mem_cons_of_mem _ hg)) w
     | false=>simp
 | @one ft off l b r v v' A C A' C' F F' hp hq ho fi ha hv e' h t i=>
   intro fs hl a w
   cases fs with
   | nil=>cases hl
   | cons f fs=>
     simp only [List.map_cons,List.cons.injEq,Prod.mk.injEq] at hl
     obtain ⟨⟨rfl,rfl⟩,hl⟩:=hl
     simp only [Op.eqFields,if_pos (a f List.mem_cons_self),Sem.run_bind]
     have c:=vz (P:=P) (C:=C) ha ho hv w
     have e:=vz (P:=P) (C:=C') ha fi e' w
     rw [← hp] at c
     rw [← hq] at e
     simp only [c,e,Result.andThen_ok,h w]
     cases b with
     | true=>
       simp only [Bool.not_true,Bool.false_eq_true,if_false,Bool.true_and]
       exact i fs hl (fun g hg=>a g (List.mem_cons_of_mem _ hg)) w
     | false=>simp
def wM (P:Program) (t:TypeId) (l:List (TypeId×Nat)):Bool:=match P.underlying t with
 | some (.struct fs)=>fs.toList.map (fun f=>(f.type,f.offset))==l && fs.toList.all (fun f=>f.name != "_") && !P.stoodInHeld t
 | _=>false
theorem gP.struct {l:List (TypeId×Nat)} {ps qs:PS} {b:Bool} (a:wM P t l=true) (h:iL P d ps qs l b):gP P (d+1) t (AG ps) (AG qs) b:=fun w=>by
 unfold wM at a
 cases hu:P.underlying t with
 | none=>rw [hu] at a;cases a
 | some u=>
   rw [hu] at a
   cases u <;> try (cases a;done)
   rename_i fs
   simp only [Bool.and_eq_true,beq_iff_eq,Bool.not_eq_true',List.all_eq_true,bne_iff_ne,ne_eq] at a
   obtain ⟨⟨h1,h2⟩,h3⟩:=a
   have hf:P.fieldsOf t=fs:=by unfold Program.fieldsOf;rw [hu]
   unfold AG
   rw [run_equalIn_struct w d t _ _ (by rw [hu,hf]) h3,hf]
   exact h.run fs.toList h1 (fun f hf=>h2 f hf) w
end
section step
variable {P:Program} {n:Nat} {K:aW→Env→World→Prop} {l:List It} {O O':aW} {e:Env} {w:World} {i ty:Nat} {d:Tmp} {pos:String} {aft:Array Edge} {gd g:Option (Nat×Bool)}
theorem toNat_lt {x:Int} {m:Nat} (a:0≤x) (h:x < (m:Int)):x.toNat < m:=by omega
theorem yM {B:Nat} {w0:aC} {L:List Rg} (a:St B w0 L w) {t el:TypeId} {sz:Nat} (F:Nat→Value) (hu:P.underlying t=some (.slice el)) (hs:bN P el sz=true) (hg:aI n e g=true) (hO:av aft O L O')
   (h:∀b w',B≤b→St B w0 (⟨some b,0,0,F,true⟩::L) w'→aa P n K l O' (an e d (.slice (some ⟨b,0,none⟩) 0 0)) w'):
   aa P n K (⟨i,false,⟨some d,.buildSlice t 0 #[],ty,pos,aft,gd⟩,g⟩::l) O e w:=by
 have c:=a.alloc [] el
 have h2:St B w0 (⟨some w.heap.size,0,0,F,true⟩::L) (w.alloc (.cells (aS []).toArray el)):=
   St.cons (show St B w0 L _ from c) (fun j f=>absurd f (Nat.not_lt_zero j)) (fun _ j f=>absurd f (Nat.not_lt_zero j)) (fun s _ _=> .inr (.inr (.inr (.inl rfl))))
 have k:(execOp (ev n e) ⟨some d,.buildSlice t 0 #[],ty,pos,aft,gd⟩).run P w= .ok (.value (.slice (some ⟨w.heap.size,0,none⟩) 0 0)) (w.alloc (.cells (aS []).toArray el)):=b8 (by
   simp [Instr.buildSlice,Sem.run_bind,run_underlying hu w,Result.andThen,et hs,newRow,newObj,Instr.fill,aS]
   rw [show∀v:Value,Array.map (fun _:Nat=>v) (Array.range 0)= #[] from fun _=>by simp]
   rfl)
 cases hO with
 | keep hp=>refine dR hg ?_;rw [k];exact .inl ⟨(hp.app _ rfl).keep c,h _ _ a.base h2⟩
 | wait hw=>refine dR hg ?_;rw [k];exact .inr ⟨hw,h _ _ a.base h2⟩
 | mix O' hf hp=>refine nZ hg ?_;rw [k];exact ⟨ae.mix hf (hp.app _ rfl) c,(show (O.filter fun p=> !ee aft p.1)=O' from hf) ▸ h _ _ a.base h2⟩
theorem Fe {B:Nat} {w0:aC} {L:List Rg} (a:St B w0 L w) {t el:TypeId} {sz:Nat} (F:Nat→Value) (hu:P.underlying t=some (.slice el)) (hs:bN P el sz=true) (hg:aI n e g=true) (hO:av aft O L O')
   (h:∀b w',B≤b→St B w0 (⟨some b,0,0*sz,F,true⟩::L) w'→aa P n K l O' (an e d (.slice (some ⟨b,0,none⟩) 0 0)) w'):
   aa P n K (⟨i,false,⟨some d,.buildSlice t 0 #[],ty,pos,aft,gd⟩,g⟩::l) O e w:=
 yM a F hu hs hg hO fun b w' hb c=>h b w' hb (by rw [Nat.zero_mul];exact c)
theorem Ow.empty {b:Nat}:Ow (some ⟨b,0,none⟩) (some b) ([]:List af).length 0 (fun _=>0#8) []:=⟨.inr ⟨b,rfl,rfl⟩,Nat.le_refl _,rfl,fun q hq=>absurd hq (Nat.not_lt_zero q)⟩
theorem LO.empty {D:EL} {L:List Rg} {b:Nat} {F:Nat→Value}:LO D L (some ⟨b,0,none⟩) (some b) ([]:List D.α).length 0 F []:=⟨.inr ⟨b,rfl,rfl⟩,Nat.le_refl _,rfl,fun j x hx=>by simp at hx,fun q hq=>absurd hq (by simp)⟩
end step
def ja:List (Nat×(Nat→Value))→Prop
 | []=>True
 | p::ps=>(∀q,(p.2 q).oneCell'=true)∧ja ps
theorem ja.mem:∀ {ps:List (Nat×(Nat→Value))},ja ps→∀v∈aS ps,v.oneCell'=true
 | [],_,v,hv=>by simp [aS] at hv
 | p::ps,h,v,hv=>by
   rw [jY] at hv
   rcases List.mem_append.1 hv with hv | hv
   · obtain ⟨q,_,rfl⟩:=List.mem_map.1 hv
     exact h.1 q
   · exact ja.mem h.2 v hv
section step
variable {P:Program} {n:Nat} {K:aW→Env→World→Prop} {l:List It} {O O':aW} {e:Env} {w:World} {i ty:Nat} {d:Tmp} {pos:String} {aft:Array Edge} {gd g:Option (Nat×Bool)}
variable {B:Nat} {w0:aC} {L L':List Rg} {D:EL}
theorem cZ {a:Option Addr} {pb:Option Nat} {len cap:Nat} {F:Nat→Value} {X:List D.α} (hf:D.flat) (h:LO D [] a pb len cap F X) (k:Nat) (c:L[k]? =some ⟨pb,0,cap*D.sz,F,true⟩):LV D L k a len cap X:=h.lv (fun b x hs=>hf _ _ b x hs) k c
theorem f_ (_:St B w0 L w) {t:TypeId} {x y:Operand} {k:IntKind} {b len cc j sz:Nat} {a:Option Addr} {X:List D.α} (hX:LV D L b a len cc X) (ha:dc P t sz=true) (hg:aI n e g=true) (hx:ev n e x= .slice a len cc) (hy:ev n e y= .int k (j:Int)) (c:j < len)
   (h:aa P n K l O (an e d (.pointer (a.map fun z=>⟨z.block,z.off+j*sz,none⟩))) w):aa P n K (⟨i,true,⟨some d,.indexAddr t x y,ty,pos,aft,gd⟩,g⟩::l) O e w:=y_ hX ha hg hx hy c h
theorem DH (R:St B w0 L w) {t t' a0:TypeId} {x y:Operand} {len cap m S a2 sz T:Nat} {a U:Option Addr} {pb:Option Nat} {F:Nat→Value} {X Y:List D.α} {z:Value} (a3:D.β) (a4:D.α) (k:Nat) (H:D.flat) (hO:LO D [] a pb len cap F X) (a5:D.sz=sz) (he:eT P t=some (sz,T,some z)) (V:z.cells.toList=aS (D.E a3 a4)) (a9:P.underlying t'=some (.slice a0)) (hg:aI n e g=true)
   (hx:ev n e x= .slice a len cap) (hy:ev n e y= .slice U m S) (W:L[k]? =some ⟨pb,0,cap*sz,F,true⟩) (I:LV D L a2 U m S Y) (hb:(len+m)*T≤140737488355328) (be:len+m < 9223372036854775808)
   (hw:∀q r,av aft O (q::L.set k r) O')
   (h:∀C o f (F':Nat→Value) r p w',LO D [] C o (X ++Y).length f F' (X ++Y)→(p=0∨p=k+1)→LV D (⟨o,0,f*sz,F',true⟩::L.set k r) p a len cap X→(∃u A,LO D [] a u len cap A X∧((⟨o,0,f*sz,F',true⟩:Rg)=⟨u,0,cap*sz,A,true⟩∨r=⟨u,0,cap*sz,A,true⟩))→St B w0 (⟨o,0,f*sz,F',true⟩::L.set k r) w'→aa P n K l O' (cv e (some d) (.slice C (X ++Y).length f)) w'):
   aa P n K (⟨i,false,⟨some d,.call ⟨.builtin .append,#[x,y],#[t,t']⟩,ty,pos,aft,gd⟩,g⟩::l) O e w:=by
 subst a5
 have bi:z.cells.size=D.sz:=by rw [← Array.length_toList,V,D.hlen]
 obtain ⟨J,bv,Z⟩:=rD R a9 I
 obtain ⟨w',C,o,f,ip,r,cc,fi,⟨cd,_⟩,ce,M⟩:=xR (P:=P) (ty:=ty) (zf:=fun q=>z.cells[q]!) R (hZ he) bi (fun q hq=>rfl) W hO.ho bv hO.hc hb be
 have hk:k < L.length:=(List.getElem?_eq_some_iff.1 W).1
 have hl:(X ++Y).length=len+m:=by rw [List.length_append,hO.hl,I.hl]
 have G:∀ {c j k:Nat},j < c→k < D.sz→j*D.sz+k < c*D.sz:=fun {c j k} s hk=>by
   have:(j+1)*D.sz≤c*D.sz:=Nat.mul_le_mul_right _ s
   rw [Nat.succ_mul] at this
   omega
 have N:LO D [] C o (len+m) f (fun q=>if ip=true∨q < (len+m)*D.sz then bh F (len*D.sz) (m*D.sz) J q else z.cells[q % D.sz]!) (X ++Y):=by
   refine ⟨fi,cd,hl,fun j x hx=>?_,ys hO V I.hl Z (fun am=>?_)⟩
   rotate_left
   · rcases M with ⟨_,_,_,ap⟩ | ⟨ap,_⟩
     · omega
     · rw [ap] at am;cases am
   have s:j < len+m:=by rw [← hl];exact (List.getElem?_eq_some_iff.1 hx).1
   by_cases h1:j < X.length
   · rw [List.getElem?_append_left h1] at hx
     refine (hO.hF j x hx).congr fun k hk=>?_
     rw [if_pos (.inr (G s hk)),c7]
     rintro ⟨h2,_⟩
     have:=G (c:=len) (j:=j) (k:=k) (by rw [hO.hl] at h1;exact h1) hk
     omega
   · rw [List.getElem?_append_right (by omega)] at hx
     obtain ⟨b,s1,s2⟩:=Z _ x hx
     refine EL.cells.congr ⟨b,H _ _ b x s1,s2⟩ fun k hk=>?_
     have c2:j*D.sz=len*D.sz+(j - X.length)*D.sz:=by rw [← Nat.add_mul,hO.hl];congr 1;rw [hO.hl] at h1;omega
     have dl:(j - X.length)*D.sz+k < m*D.sz:=by
       have:=G s hk
       rw [Nat.add_mul] at this
       omega
     rw [if_pos (.inr (G s hk)),eh _ _ _ _ _ ⟨by omega,by omega⟩]
     congr 1;omega
 have ci:∃p,(p=0∨p=k+1)∧LV D (⟨o,0,f*D.sz,fun q=>if ip=true∨q < (len+m)*D.sz then bh F (len*D.sz) (m*D.sz) J q else z.cells[q % D.sz]!,true⟩::L.set k r) p a len cap X:=by
   rcases M with ⟨h1,h2,h3,Q⟩ | ⟨_,h1⟩
   · subst h1 h2 h3 Q
     refine ⟨0,.inl rfl,LO.lv (L0:= []) ⟨hO.ho,hO.hc,hO.hl,fun j x hx=>?_,N.hK⟩ (fun b x h=>H _ _ b x h) 0 rfl⟩
     refine (hO.hF j x hx).congr fun q hq=>?_
     have s:j < len:=by rw [← hO.hl];exact (List.getElem?_eq_some_iff.1 hx).1
     rw [if_pos (.inl rfl),c7]
     rintro ⟨h2,_⟩
     have:=G (k:=q) s hq
     omega
   · subst h1
     refine ⟨k+1,.inr rfl,LO.lv hO (fun b x h=>H _ _ b x h) (k+1) ?_⟩
     rw [List.getElem?_cons_succ,List.getElem?_set_self hk]
 obtain ⟨p,cl,co⟩:=ci
 have cs:∃u A,LO D [] a u len cap A X∧((⟨o,0,f*D.sz,fun q=>if ip=true∨q < (len+m)*D.sz then bh F (len*D.sz) (m*D.sz) J q else z.cells[q % D.sz]!,true⟩:Rg)=⟨u,0,cap*D.sz,A,true⟩∨r=⟨u,0,cap*D.sz,A,true⟩):=by
   rcases M with ⟨h1,h2,h3,Q⟩ | ⟨_,h1⟩
   · subst h1 h2 h3 Q
     refine ⟨_,_,⟨hO.ho,hO.hc,hO.hl,fun j x hx=>?_,N.hK⟩,.inl rfl⟩
     refine (hO.hF j x hx).congr fun q hq=>?_
     have s:j < len:=by rw [← hO.hl];exact (List.getElem?_eq_some_iff.1 hx).1
     rw [if_pos (.inl rfl),c7]
     rintro ⟨h2,_⟩
     have:=G (k:=q) s hq
     omega
   · subst h1
     exact ⟨_,_,hO,.inr rfl⟩
 refine gK hg (w':=w') (v:= .slice C (X ++Y).length f) (kn fun c=>?_) ce (hw _ _) fun w' c1=>h C o f _ r p w' ?_ cl co cs c1
 · rw [hx,hy]
   simp only [builtin,Sem.run_bind,cc,hl]
   rfl
 · rw [hl];exact N
def ec (z:Int):Int:=(z+9223372036854775808) % 18446744073709551616 - 9223372036854775808
theorem vy (z:Int):IntKind.i64.wrap z=ec z:=by rw [IntKind.wrap_i64];unfold ec;omega
theorem AP {t yt:TypeId} {x y:Operand} {a b:Int} (hg:aI n e g=true) (hx:ev n e x= .int .i64 a) (hy:ev n e y= .int .i64 b)
   (h:aa P n K l O (an e d (.int .i64 (ec (a+b)))) w):aa P n K (⟨i,true,⟨some d,.binOp .add t x y yt,ty,pos,aft,gd⟩,g⟩::l) O e w:=
 hG hg hx hy (vy _) h
theorem Gv {t:TypeId} {x:Operand} {a:Int} (hg:aI n e g=true) (hx:ev n e x= .int .i64 a)
   (h:aa P n K l O (an e d (.int .i64 (ec (-a)))) w):aa P n K (⟨i,true,⟨some d,.unOp .neg t x,ty,pos,aft,gd⟩,g⟩::l) O e w:=
 aa.val hg (fun w=>b8 (by
   rw [hx]
   show (Op.intArith .sub .i64 0 a).run P w=_
   simp only [Op.intArith]
   rw [show (0:Int) - a= -a by omega,vy];rfl)) h
theorem Ab {n:Int} (h: -9223372036854775808≤n∧n≤9223372036854775807):0≤max n (ec (-(ec (n+1)))):=by unfold ec;omega
theorem wG {n:Int} (h:IntKind.i64.has n): -9223372036854775808≤n∧n≤9223372036854775807:=by
 simp [IntKind.has,IntKind.min,IntKind.max,IntKind.signed,IntKind.bits] at h;omega
end step
end Go.LW
namespace Go.LW
set_option linter.unusedSimpArgs false
set_option linter.unusedVariables false
set_option linter.unusedSectionVars false
open Go Go.RowKit
theorem aH.nil {aft:Array Edge}:([]:aW).filter (fun p=> !ee aft p.1)= []:=rfl
theorem aH.drop {aft:Array Edge} {k:Nat} {S:World→Prop} {O O':aW} (h:ee aft k=true) (t:O.filter (fun p=> !ee aft p.1)=O'):((k,S)::O:aW).filter (fun p=> !ee aft p.1)=O':=by
 rw [List.filter_cons,if_neg (by show¬(!ee aft k)=true;rw [h];exact Bool.false_ne_true)];exact t
theorem aH.keep {aft:Array Edge} {k:Nat} {S:World→Prop} {O O':aW} (h:ee aft k=false) (t:O.filter (fun p=> !ee aft p.1)=O'):((k,S)::O:aW).filter (fun p=> !ee aft p.1)=(k,S)::O':=by
 rw [List.filter_cons,if_pos (by show (!ee aft k)=true;rw [h];rfl),t]
section step
variable {P:Program} {n:Nat} {K:aW→Env→World→Prop} {l:List It} {O O':aW} {e:Env} {w:World} {i ty:Nat} {d:Tmp} {pos:String} {aft:Array Edge} {gd g:Option (Nat×Bool)}
variable {B:Nat} {w0:aC} {L L':List Rg}
end step
end Go.LW
namespace Go.LW
set_option linter.unusedSimpArgs false
set_option linter.unusedVariables false
set_option linter.unusedSectionVars false
open Go Go.RowKit
inductive fl (P:Program) (w:World) (r:Reach) (base:Nat):List TypeId→List Value→Prop
 | nil:fl P w r base [] []
 | cons {u:TypeId} {v:Value} {ts:List TypeId} {cs:List Value} (h:Cell.okWide P w r base u v) (t:fl P w r base ts cs):fl P w r base (u::ts) (v::cs)
theorem fl.of {P:Program} {w:World} {r:Reach} {base:Nat}:∀(ts:List TypeId) (cs:List Value),cs.length=ts.length→(∀(i:Nat) v,cs[i]? =some v→∃u,ts[i]? =some u∧Cell.okWide P w r base u v)→fl P w r base ts cs
 | [],[],_,_=> .nil
 | [],v::cs,hl,_=>by simp at hl
 | u::ts,[],hl,_=>by simp at hl
 | u::ts,v::cs,hl,h=>by
   obtain ⟨a,hu,hv⟩:=h 0 v rfl
   obtain rfl:u=a:=Option.some.inj hu
   exact .cons hv (fl.of ts cs (by simpa using hl) fun i x hx=>h (i+1) x hx)
def fg (v:Value) (ps:List (Nat×(Nat→Value))) (cs:List Value):Prop:=v= .agg (aS ps ++cs).toArray
theorem xb {P:Program} {w:World} {r:Reach} {base:Nat} {u:TypeId} {k:IntKind} {s:Nat} (hk:UK k s) (b:P.underlying u=some (.int k)):∀ {n:Nat} {ts:List TypeId} {cs:List Value},fl P w r base (List.replicate n u ++ts) cs→
   ∃(F:Nat→BitVec s) (a:List Value),cs=(List.range n).map (fun q=>VU k (F q)) ++a∧fl P w r base ts a
 | 0,ts,cs,h=>⟨fun _=>0#s,cs,rfl,h⟩
 | n+1,ts,cs,h=>by
   rw [List.replicate_succ,List.cons_append] at h
   cases h with
   | cons h1 t=>
     obtain ⟨x,rfl,hx⟩:=ob b h1
     obtain ⟨F,a,rfl,h2⟩:=xb hk b t
     refine ⟨fun q=>match q with | 0=>BitVec.ofInt s x | q+1=>F q,a,?_,h2⟩
     rw [List.range_succ_eq_map,List.map_cons,List.map_map,List.cons_append]
     exact congrArg (· ::_) (congrArg (Value.int k) (rl hk hx))
theorem fg.part {P:Program} {w:World} {r:Reach} {base:Nat} {v:Value} {ps:List (Nat×(Nat→Value))} {cs:List Value} {u:TypeId} {k:IntKind} {s n:Nat} {ts:List TypeId} (hk:UK k s) (b:P.underlying u=some (.int k)) (hv:fg v ps cs) (h:fl P w r base (List.replicate n u ++ts) cs):
   ∃(F:Nat→BitVec s) (a:List Value),fg v (ps ++ [(n,fun q=>VU k (F q))]) a∧fl P w r base ts a:=by
 obtain ⟨F,a,rfl,h2⟩:=xb hk b h
 refine ⟨F,a,?_,h2⟩
 unfold fg at hv ⊢
 rw [hv]
 unfold aS
 simp [List.flatMap_append]
theorem fg.int {P:Program} {w:World} {r:Reach} {base:Nat} {v:Value} {ps:List (Nat×(Nat→Value))} {cs:List Value} {u:TypeId} {k:IntKind} {ts:List TypeId} (b:P.underlying u=some (.int k)) (hv:fg v ps cs) (h:fl P w r base (u::ts) cs):
   ∃(x:Int) (a:List Value),k.has x∧fg v (ps ++ [(1,fun _=> .int k x)]) a∧fl P w r base ts a:=by
 cases h with
 | cons h1 t=>
   obtain ⟨x,rfl,hx⟩:=ob b h1
   refine ⟨x,_,hx,?_,t⟩
   unfold fg at hv ⊢
   rw [hv]
   unfold aS
   simp [List.flatMap_append,List.range_succ]
theorem fg.bool {P:Program} {w:World} {r:Reach} {base:Nat} {v:Value} {ps:List (Nat×(Nat→Value))} {cs:List Value} {u:TypeId} {ts:List TypeId} (b:P.underlying u=some .bool) (hv:fg v ps cs) (h:fl P w r base (u::ts) cs):
   ∃(x:Bool) (a:List Value),fg v (ps ++ [(1,fun _=> .bool x)]) a∧fl P w r base ts a:=by
 cases h with
 | cons h1 t=>
   rename_i v' a
   have:∃x,v'= .bool x:=by
     unfold Cell.okWide at h1
     rw [b] at h1
     cases v' <;> simp [Cell.ok,b] at h1
     exact ⟨_,rfl⟩
   obtain ⟨x,rfl⟩:=this
   refine ⟨x,_,?_,t⟩
   unfold fg at hv ⊢
   rw [hv]
   unfold aS
   simp [List.flatMap_append,List.range_succ]
theorem fg.fin {P:Program} {w:World} {r:Reach} {base:Nat} {v:Value} {ps:List (Nat×(Nat→Value))} {cs:List Value} (hv:fg v ps cs) (h:fl P w r base [] cs):v=AG ps:=by
 cases h
 unfold fg at hv
 rw [hv,List.append_nil];rfl
theorem ae.or {O:aW} {L:List Rg} {k:Nat} {r:Rg} (i:Nat) (h:r.n=0∨L[i]? =some r) (t:ae O L):ae ((k,r.at)::O) L:=by
 rcases h with h | h
 · have e:r.at=fun _=>True:=by
     funext w
     exact propext ⟨fun _=>trivial,fun _ j a=>absurd a (by omega)⟩
   rw [e]
   exact .nh t
 · exact .cons i h t
theorem rv {L:List Rg} {i:Nat} {r:Rg} (C:List Rg) (h:r.n=0∨(C ++L)[i+C.length]? =some r):r.n=0∨L[i]? =some r:=h.imp_right fun h=>C7 h
theorem kz {L:List Rg} {i:Nat} {r:Rg} (h:r.n=0∨L[i]? =some r) (C:List Rg):r.n=0∨(C ++L)[i+C.length]? =some r:=h.imp_right fun h=>c_ h C
section step
variable {P:Program} {n:Nat} {K:aW→Env→World→Prop} {l:List It} {O O':aW} {e:Env} {w:World} {i ty:Nat} {d:Tmp} {pos:String} {aft:Array Edge} {gd g:Option (Nat×Bool)}
variable {B:Nat} {w0:aC} {L L':List Rg} {D:EL}
theorem vm (X:List af):(bV X).data.toList.map (fun b=>Value.int .u8 (b.toNat:Int))=X.map fun b=>VU .u8 b:=by
 unfold bV
 rw [strOfNums_data,List.map_map,List.map_map]
 refine List.map_congr_left fun b _=>?_
 have h1:(UInt8.ofNat ((b.toNat:Int)).toNat).toNat=b.toNat:=by
   rw [Int.toNat_natCast]
   simp
 show Value.int .u8 _=Value.int .u8 _
 rw [show ((UInt8.ofNat ((b.toNat:Int)).toNat).toNat:Int)=(b.toNat:Int) by rw [h1]]
theorem q5 (X:List af):(bV X).size=X.length:=by
 have:=congrArg List.length (vm X)
 rw [List.length_map,List.length_map,Array.length_toList] at this
 exact this
theorem B' (X:List af) {c:Nat} (hc:X.length≤c):bytesRow (bV X) c=(aS [(c,fun q=>VU .u8 (lit X q))]).toArray:=by
 rw [eg]
 apply Array.ext'
 unfold bytesRow
 rw [Array.toList_append,Array.toList_map,vm,q5,Array.toList_replicate]
 apply List.ext_getElem?
 intro q
 show _=((List.range c).map fun q=>VU .u8 (lit X q))[q]?
 by_cases hq:q < c
 · rw [List.getElem?_map,List.getElem?_range hq]
   by_cases h2:q < X.length
   · rw [List.getElem?_append_left (by simpa using h2),List.getElem?_map,List.getElem?_eq_getElem h2]
     simp [lit,List.getD,h2]
   · rw [List.getElem?_append_right (by simpa using Nat.le_of_not_lt h2),List.length_map,List.getElem?_replicate,if_pos (by omega)]
     simp [lit,List.getD,h2]
 · rw [List.getElem?_eq_none (by simp;omega),List.getElem?_eq_none (by simpa using hq)]
theorem q0 (j:St B w0 L w) {t t' el:TypeId} {x:Operand} {X:List af} (hs:P.underlying t=some .string) (p:P.underlying t'=some (.slice el)) (he:P.underlying el=some (.int .u8)) (hg:aI n e g=true) (hx:ev n e x= .string (bV X))
   (hO:∀r,av aft O (r::L) O')
   (h:∀b cap w',B≤b→Ow (some ⟨b,0,none⟩) (some b) X.length cap (lit X) X→St B w0 (⟨some b,0,cap,fun q=>VU .u8 (lit X q),true⟩::L) w'→aa P n K l O' (cv e (some d) (.slice (some ⟨b,0,none⟩) X.length cap)) w'):
   aa P n K (⟨i,false,⟨some d,.convert t t' x,ty,pos,aft,gd⟩,g⟩::l) O e w:=by
 have k:=run_bytes_of_string (P:=P) w t t' el (bV X) hs p he
 have m:X.length≤grownCap w (bV X).size 0 el:=by
   have:=grownCap_ge w (bV X).size 0 el
   rw [q5] at this ⊢
   omega
 rw [B' X m] at k
 generalize hc:grownCap w (bV X).size 0 el=c at k m
 have A:((aS [(c,fun q=>VU .u8 (lit X q))]).toArray).size=c:=by rw [eg];simp
 have s:=j.drew.alloc [(c,fun q=>VU .u8 (lit X q))] el
 have u:(w.drew.alloc (.cells (aS [(c,fun q=>VU .u8 (lit X q))]).toArray el)).heap[w.heap.size]? =some (.cells (aS [(c,fun q=>VU .u8 (lit X q))]).toArray el (0,0)):=heap_alloc_new _ _
 have o:=s.xu (b:=w.heap.size) j.base u
 have hw:(w.drew.alloc (.cells (aS [(c,fun q=>VU .u8 (lit X q))]).toArray el)).freeze ⟨w.heap.size,((aS [(c,fun q=>VU .u8 (lit X q))]).toArray).size,none⟩ 1=w.drew.alloc (.cells (aS [(c,fun q=>VU .u8 (lit X q))]).toArray el (((aS [(c,fun q=>VU .u8 (lit X q))]).toArray).size,((aS [(c,fun q=>VU .u8 (lit X q))]).toArray).size+1)):=by
   have hm:∀(a:Array Obj) (x:Obj) (f:Obj→Obj),(a.push x).modify a.size f=a.push (f x):=by
     intro a x f
     apply Array.ext
     · simp
     · intro i h1 h2
       simp only [Array.getElem_modify,Array.getElem_push]
       by_cases h:a.size=i
       · subst h;simp
       · have hi:i < a.size:=by simp at h1;omega
         simp [h,hi]
   generalize (aS [(c,fun q=>VU .u8 (lit X q))]).toArray=C
   unfold World.freeze
   rw [if_neg (by decide)]
   show ({ w.drew.alloc (.cells C el) with heap:=(w.heap.push (.cells C el)).modify w.heap.size _ }:World)=_
   rw [hm]
   rfl
 rw [hw] at o
 have y:Ow (some ⟨w.heap.size,0,none⟩) (some w.heap.size) X.length c (lit X) X:=⟨.inr ⟨_,rfl,rfl⟩,m,rfl,fun q _=>rfl⟩
 refine gK hg (v:= .slice (some ⟨w.heap.size,0,none⟩) X.length c) (b8 ?_) o (hO _) (fun w' z=>h _ c w' j.base y z)
 rw [hx,k,q5]
end step
end Go.LW
namespace Go.LW
set_option linter.unusedSimpArgs false
set_option linter.unusedVariables false
set_option linter.unusedSectionVars false
open Go Go.RowKit
inductive ny (P:Program) (w:World) (M:Nat):TypeId→Value→Prop
 | int {u:TypeId} {k:IntKind} {n:Int} (hu:P.underlying u=some (.int k)) (h:(Lit.int k n).wf=true):ny P w M u (.int k n)
 | bool {u:TypeId} {b:Bool} (hu:P.underlying u=some .bool):ny P w M u (.bool b)
 | bytes {u e:TypeId} {a:Option Addr} {len cap:Nat} {zs:List Int} (hu:P.underlying u=some (.slice e)) (he:P.underlying e=some (.int .u8)) (h:gp .u8 w a len cap zs) (hb:cap≤M):ny P w M u (.slice a len cap)
inductive cT (P:Program) (w:World) (M:Nat):List TypeId→List Value→Prop
 | nil:cT P w M [] []
 | cons {u:TypeId} {v:Value} {ts:List TypeId} {cs:List Value} (h:ny P w M u v) (t:cT P w M ts cs):cT P w M (u::ts) (v::cs)
theorem cT.append {P:Program} {w:World} {M:Nat} {ts a:List TypeId} {cs b:List Value} (h:cT P w M ts cs) (c:cT P w M a b):cT P w M (ts ++a) (cs ++b):=by
 induction h with
 | nil=>exact c
 | cons h _ d=>exact .cons h d
theorem cT.length {P:Program} {w:World} {M:Nat} {ts:List TypeId} {cs:List Value} (h:cT P w M ts cs):cs.length=ts.length:=by
 induction h with
 | nil=>rfl
 | cons _ _ a=>rw [List.length_cons,List.length_cons,a]
def yj (P:Program) (a:TypeId→Option (List TypeId)):List Field→Nat→Option (List TypeId)
 | [],_=>some []
 | f::fs,o=>if f.offset=o then
    match a f.type with
    | some l=>if P.cellsOf f.type=l.length then (yj P a fs (o+l.length)).map (l ++ ·) else none
    | none=>none
   else none
def sS (P:Program):Nat→TypeId→Option (List TypeId)
 | 0,_=>none
 | n+1,t=>match P.underlying t with
   | some (.int _)=>some [t]
   | some .bool=>some [t]
   | some (.slice e)=>match P.underlying e with
     | some (.int .u8)=>if P.cellsOf e=1∧P.bytesOf e=1 then some [t] else none
     | _=>none
   | some (.struct fs)=>match yj P (sS P n) fs.toList 0 with
     | some l=>if P.cellsOf t=l.length then some l else none
     | none=>none
   | some (.array m e)=>match sS P n e with
     | some l=>if P.cellsOf e=l.length∧P.cellsOf t=m*l.length then some (List.replicate m l).flatten else none
     | none=>none
   | _=>none
section
variable {H:Type} {enc:TypeId×Value→H} {P:Program} {w:World} {M:Nat} {held:Bool} {K:TypeId→DataW H→Prop}
end
structure sA (P:Program) (w:World) (M:Nat) (ts:List TypeId) (a:Option Addr) (len cap:Nat) (p:Option Nat) (off:Nat) (G:Nat→Value):Prop where
 at_:(Rg.mk p off (cap*ts.length) G false).at w
 sl:ey a p off len
 le:len≤cap
 B4:cap≤maxLen
 el:∀i,i < cap→cT P w M ts ((List.range ts.length).map fun j=>G (i*ts.length+j))
theorem St.c5 {B:Nat} {w0:aC} {w:World} {L:List Rg} (h:St B w0 L w) (a:LW.c5 L):∀(R:List Rg),(∀r∈R,r.at w∧r.rw=false)→St B w0 (R ++L) w∧LW.c5 (R ++L)
 | [],_=>⟨h,a⟩
 | r::R,b=>by
   obtain ⟨h1,h2⟩:=h.c5 a R (fun q hq=>b q (List.mem_cons_of_mem _ hq))
   obtain ⟨h3,c⟩:=b r List.mem_cons_self
   obtain ⟨p,off,n,f,rw⟩:=r
   simp only at c
   subst c
   exact h1.nI h2 h3
def zT (P:Program) (w:World) (M:Nat) (D:EL) (ts:List TypeId) (Q:D.α→Prop):Prop:=∀cells,cT P w M ts cells→∃(R:List Rg) (b:D.β) (x:D.α),(∀r∈R,r.at w∧r.rw=false)∧D.side R b x∧cells=aS (D.E b x)∧Q x
def EL.jE (D:EL):Prop:=∀L L' b x,(∀r∈L,r∈L')→D.side L b x→D.side L' b x
theorem sA.lv {P:Program} {M:Nat} {B:Nat} {w0:aC} {w:World} {L:List Rg} {D:EL} {ts:List TypeId} {a:Option Addr} {len cap:Nat} {p:Option Nat} {off:Nat} {G:Nat→Value} (h:sA P w M ts a len cap p off G) (g:St B w0 L w) (c:LW.c5 L) {Q:D.α→Prop} (ho:zT P w M D ts Q) (hl:D.jE) (f:D.sz=ts.length):
   ∃(C:List Rg) (X:List D.α),St B w0 (C ++L) w∧LW.c5 (C ++L)∧LV D (C ++L) 0 a len cap X∧∀(j:Nat) x,X[j]? =some x→Q x:=by
 have each:∀i,i < cap→∃(R:List Rg) (b:D.β) (x:D.α),(∀r∈R,r.at w∧r.rw=false)∧D.side R b x∧((List.range ts.length).map fun j=>G (i*ts.length+j))=aS (D.E b x)∧Q x:=fun i hi=>ho _ (h.el i hi)
 have hle:=h.le
 -- the elements, one by one
 have all:∀m,m≤len→∃(R:List Rg) (X:List D.α),X.length=m∧(∀r∈R,r.at w∧r.rw=false)∧∀j x,X[j]? =some x→∃b,D.side R b x∧((List.range ts.length).map fun q=>G (j*ts.length+q))=aS (D.E b x)∧Q x:=by
   intro m
   induction m with
   | zero=>
     intro _
     refine ⟨[],[],rfl,fun r c=>?_,fun j x hx=>?_⟩
     · cases c
     · rw [List.getElem?_nil] at hx;cases hx
   | succ m l=>
     intro hm
     obtain ⟨R,X,h1,h2,h3⟩:=l (by omega)
     obtain ⟨n,b,x,o,s,t⟩:=each m (by omega)
     refine ⟨R ++n,X ++ [x],by rw [List.length_append,h1];rfl,fun r c=>(List.mem_append.1 c).elim (h2 r) (o r),fun j y hy=>?_⟩
     by_cases A:j < m
     · rw [List.getElem?_append_left (by omega)] at hy
       obtain ⟨u,d,e⟩:=h3 j y hy
       exact ⟨u,hl _ _ _ _ (fun r c=>List.mem_append_left _ c) d,e⟩
     · have z:j=m:=by
         have:=(List.getElem?_eq_some_iff.1 hy).1
         rw [List.length_append,h1,List.length_singleton] at this;omega
       subst z
       rw [List.getElem?_append_right (by omega),h1,Nat.sub_self] at hy
       obtain rfl:x=y:=Option.some.inj hy
       exact ⟨b,hl _ _ _ _ (fun r c=>List.mem_append_right _ c) s,t⟩
 obtain ⟨R,X,h1,h2,h3⟩:=all len (Nat.le_refl _)
 obtain ⟨s1,s2⟩:=g.c5 c (⟨p,off,cap*ts.length,G,false⟩::R) (fun r c=>by
   rcases List.mem_cons.1 c with rfl | c
   · exact ⟨h.at_,rfl⟩
   · exact h2 r c)
 refine ⟨_,X,s1,s2,⟨h1,hle,fun _=>⟨off,cap*ts.length,0,off,p,G,false,rfl,h.sl,rfl,by rw [f,Nat.zero_add];exact Nat.mul_le_mul_right _ hle,fun j x hx=>?_⟩⟩,fun j x hx=>(h3 j x hx).choose_spec.2.2⟩
 obtain ⟨b,d,e,_⟩:=h3 j x hx
 refine ⟨b,hl _ _ _ _ (fun r c=>List.mem_append_left _ (List.mem_cons_of_mem _ c)) d,fun k v hv=>?_⟩
 rw [← e] at hv
 have hk:k < ts.length:=by
   have:=(List.getElem?_eq_some_iff.1 hv).1
   simpa using this
 rw [List.getElem?_map,List.getElem?_range hk] at hv
 show G (0+j*D.sz+k)=v
 rw [f,Nat.zero_add]
 exact Option.some.inj hv
theorem Bx.lift {L L':List Rg} {i:Nat} {a:Option Addr} {len cc:Nat} {X:List af} (h:Bx L i a len cc X) (hs:∀r∈L,r∈L'):∃c,Bx L' c a len cc X:=by
 obtain ⟨hl,hc,h⟩:=h
 by_cases b:0 < len
 · obtain ⟨d,ms,e,os,ps,G,rw,h1,h2⟩:=h b
   obtain ⟨k,hk⟩:=List.mem_iff_getElem?.1 (hs _ (List.mem_of_getElem? h1))
   exact ⟨k,hl,hc,fun _=>⟨d,ms,e,os,ps,G,rw,hk,h2⟩⟩
 · exact ⟨0,hl,hc,fun h=>absurd h b⟩
theorem cT.part {P:Program} {w:World} {M:Nat} {u:TypeId} {k:IntKind} {s:Nat} (hk:UK k s) (a:P.underlying u=some (.int k)):∀ {n:Nat} {ts:List TypeId} {cs:List Value},cT P w M (List.replicate n u ++ts) cs→
   ∃(F:Nat→BitVec s) (b:List Value),cs=(List.range n).map (fun q=>VU k (F q)) ++b∧cT P w M ts b
 | 0,ts,cs,h=>⟨fun _=>0#s,cs,rfl,h⟩
 | n+1,ts,cs,h=>by
   rw [List.replicate_succ,List.cons_append] at h
   cases h with
   | cons h1 t=>
     rename_i v c
     have hx:∃x:BitVec s,v=VU k x:=by
       cases h1 with
       | int hu hw=>
         rw [a] at hu
         obtain rfl:k=_:=TypeDesc.int.inj (Option.some.inj hu)
         rename_i z
         refine ⟨BitVec.ofInt s z,congrArg (Value.int k) (rl hk ?_)⟩
         unfold IntKind.has
         simpa [Lit.wf] using hw
       | bool hu=>rw [a] at hu;cases hu
       | bytes hu _ _ _=>rw [a] at hu;cases hu
     obtain ⟨x,rfl⟩:=hx
     obtain ⟨F,b,rfl,h2⟩:=cT.part hk a t
     refine ⟨fun q=>match q with | 0=>x | q+1=>F q,b,?_,h2⟩
     rw [List.range_succ_eq_map,List.map_cons,List.map_map,List.cons_append]
     rfl
theorem cT.int {P:Program} {w:World} {M:Nat} {u:TypeId} {k:IntKind} (a:P.underlying u=some (.int k)) {ts:List TypeId} {cs:List Value} (h:cT P w M (u::ts) cs):∃(x:Int) (b:List Value),cs= .int k x::b∧cT P w M ts b:=by
 cases h with
 | cons h1 t=>
   cases h1 with
   | int hu hw=>
     rw [a] at hu
     obtain rfl:k=_:=TypeDesc.int.inj (Option.some.inj hu)
     exact ⟨_,_,rfl,t⟩
   | bool hu=>rw [a] at hu;cases hu
   | bytes hu _ _ _=>rw [a] at hu;cases hu
theorem cT.bool {P:Program} {w:World} {M:Nat} {u:TypeId} (a:P.underlying u=some .bool) {ts:List TypeId} {cs:List Value} (h:cT P w M (u::ts) cs):∃(x:Bool) (b:List Value),cs= .bool x::b∧cT P w M ts b:=by
 cases h with
 | cons h1 t=>
   cases h1 with
   | bool hu=>exact ⟨_,_,rfl,t⟩
   | int hu hw=>rw [a] at hu;cases hu
   | bytes hu _ _ _=>rw [a] at hu;cases hu
theorem cT.bytes {P:Program} {w:World} {M:Nat} {u e:TypeId} (c:P.underlying u=some (.slice e)) {ts:List TypeId} {cs:List Value} (h:cT P w M (u::ts) cs):
   ∃(r:Rg) (a:Option Addr) (cap:Nat) (X:List af) (i:Nat) (d:List Value),(r.at w∧r.rw=false)∧Bx [r] i a X.length cap X∧cs= .slice a X.length cap::d∧cT P w M ts d∧X.length≤M:=by
 cases h with
 | cons h1 t=>
   cases h1 with
   | int hu hw=>rw [c] at hu;cases hu
   | bool hu=>rw [c] at hu;cases hu
   | bytes hu he f hb=>
     obtain ⟨r,X,i,h2,h3,b⟩:=f.bx (uR w.heap.size w (Nat.le_refl _)) c5.nil
     have hl:=b.hl
     subst hl
     exact ⟨r,_,_,X,i,_,⟨h2.at_ r List.mem_cons_self,h3 r List.mem_cons_self⟩,b,rfl,t,Nat.le_trans b.2.1 hb⟩
end Go.LW
namespace Go.LW
set_option linter.unusedSimpArgs false
set_option linter.unusedVariables false
set_option linter.unusedSectionVars false
open Go Go.RowKit
theorem ah {α:Type _} {a:α} {l m:List α}:(a::l) ++m=a::(l ++m):=rfl
theorem ai {α:Type _} {l:List α}: [] ++l=l:=rfl
theorem aL {α β:Type _} {f:α→Option β} {a:α} {l:List α}:List.filterMap f (a::l)=match f a with | none=>List.filterMap f l | some b=>b::List.filterMap f l:=List.filterMap_cons
theorem aK {α β:Type _} {f:α→Option β}:List.filterMap f []= []:=rfl
theorem aM {α:Type _} {a:α} {l:List α}:(a::l)[0]? =some a:=rfl
theorem aJ {α:Type _} {a:α} {l:List α} {i:Nat}:(a::l)[i+1]? =l[i]? :=rfl
theorem aq {α:Type _} {a b:α} {l:List α}:(a::l).set 0 b=b::l:=rfl
theorem ar {α:Type _} {a b:α} {l:List α} {i:Nat}:(a::l).set (i+1) b=a::l.set i b:=rfl
theorem ab {e:Env} {s:Nat} {r:List (Nat×Value)} (t:aU e r):aU e ((s,e s)::r):= .cons rfl t
theorem au {e:Env}:aU e []:= .nil
section step
variable {P:Program} {n:Nat} {K:aW→Env→World→Prop} {l:List It} {O O':aW} {e:Env} {w:World} {i ty:Nat} {d:Tmp} {pos:String} {aft:Array Edge} {gd g:Option (Nat×Bool)}
end step
def Rg.ro (r:Rg):Rg:=⟨r.p,r.off,r.n,r.f,false⟩
section ro
variable {B:Nat} {w0:aC} {w w':World} {L:List Rg}
theorem St.Em (h:St B w0 L w):St w.heap.size ⟨w,[]⟩ (L.map Rg.ro) w:=by
 refine ⟨fo.refl _ _,Nat.le_refl _,fun r a=>?_,fun r a hw=>?_,?_⟩
 · obtain ⟨s,hs,rfl⟩:=List.mem_map.1 a
   exact h.at_ s hs
 · obtain ⟨s,hs,rfl⟩:=List.mem_map.1 a
   exact Bool.noConfusion (show false=true from hw)
 · rw [List.pairwise_map]
   exact List.Pairwise.imp (fun _ hw=>by rcases hw with hw | hw <;> exact Bool.noConfusion (show false=true from hw)) h.apart
end ro
end Go.LW
namespace Go.LW
set_option linter.unusedSimpArgs false
set_option linter.unusedVariables false
set_option linter.unusedSectionVars false
open Go Go.RowKit
section run
variable {P:Program}
end run
section unroll
variable {P:Program} {n:Nat} {R:Exit→Env→World→Prop} {e:Env} {w:World}
end unroll
section step
variable {P:Program} {n:Nat} {K:aW→Env→World→Prop} {l:List It} {O O':aW} {e:Env} {w:World} {i ty:Nat} {d:Tmp} {pos:String} {aft:Array Edge} {gd g:Option (Nat×Bool)}
end step
end Go.LW
namespace Go.LW
set_option linter.unusedSimpArgs false
set_option linter.unusedVariables false
set_option linter.unusedSectionVars false
open Go Go.RowKit
section
variable {P:Program} {n:Nat} {K:aW→Env→World→Prop} {l:List It} {O O':aW} {e:Env} {w:World} {i ty:Nat} {d:Tmp} {pos:String} {aft:Array Edge} {gd g:Option (Nat×Bool)}
variable {B:Nat} {w0:aC} {L L':List Rg}
end
@[reducible] def EL.at (D:EL) (P:List Rg):EL:= { D with side:=fun _ b x=>D.side P b x,mono:=fun _ _ _ _ h=>h }
theorem kE {D:EL} {P:List Rg}:(D.at P).flat:=fun _ _ _ _ h=>h
theorem EL.cells.grow {D:EL} {P a L L':List Rg} {G:Nat→Value} {x:D.α} (hl:D.jE) (hp:∀r∈P,r∈a) (h:(D.at P).cells L G x):(D.at a).cells L' G x:=by
 obtain ⟨b,h1,h2⟩:=h
 exact ⟨b,hl _ _ _ _ hp h1,h2⟩
theorem LV.grow {D:EL} {P b L:List Rg} {i:Nat} {a:Option Addr} {len cc:Nat} {X:List D.α} (hl:D.jE) (hp:∀r∈P,r∈b) (h:LV (D.at P) L i a len cc X):LV (D.at b) L i a len cc X:=by
 obtain ⟨h1,h2,h3⟩:=h
 refine ⟨h1,h2,fun c=>?_⟩
 obtain ⟨d,ms,e,os,ps,G,rw,f,g,k,l,m⟩:=h3 c
 exact ⟨d,ms,e,os,ps,G,rw,f,g,k,l,fun j x hx=>(m j x hx).grow hl hp⟩
theorem LO.grow {D:EL} {P b L L':List Rg} {a:Option Addr} {pb:Option Nat} {len cap:Nat} {F:Nat→Value} {X:List D.α} (hl:D.jE) (hp:∀r∈P,r∈b) (h:LO (D.at P) L a pb len cap F X):LO (D.at b) L' a pb len cap F X:=
 ⟨h.ho,h.hc,h.hl,fun j x hx=>(h.hF j x hx).grow hl hp,h.hK⟩
def dB (A a B b:List Rg):Prop:=∃C,B=C ++A∧b=C ++a
theorem dB.refl (A a:List Rg):dB A a A a:=⟨[],rfl,rfl⟩
theorem dB.step {A a B b c d C:List Rg} (h:dB A a B b) (h1:c=C ++B) (h2:d=C ++b):dB A a c d:=by
 obtain ⟨e,rfl,rfl⟩:=h
 exact ⟨C ++e,by rw [h1,List.append_assoc],by rw [h2,List.append_assoc]⟩
theorem dB.get {A a B b:List Rg} (h:dB A a B b) {i:Nat} {r:Rg} (c:A[i]? =some r):∃j:Nat,B[j]? =some r:=by
 obtain ⟨C,rfl,_⟩:=h
 exact ⟨i+C.length,by rw [List.getElem?_append_right (by omega),Nat.add_sub_cancel];exact c⟩
theorem wQ {A B C:List Rg} (h:∀r∈A,r∈B):∀r∈C ++A,r∈C ++B:=fun r a=>(List.mem_append.1 a).elim (List.mem_append_left _) fun b=>List.mem_append_right _ (h r b)
theorem St.re {B:Nat} {w0:aC} {w:World} {N L M:List Rg} (a:L=M) (h:St B w0 (N ++M) w):St B w0 (N ++L) w:=a ▸ h
theorem kA {B:Nat} {w0:aC} {w:World} {N R C L:List Rg} (h:St B w0 (N ++(C ++(R ++L))) w):St B w0 (N ++(R ++(C ++L))) w:=
 h.perm (List.Perm.append_left N (by rw [← List.append_assoc,← List.append_assoc];exact List.Perm.append_right L List.perm_append_comm))
theorem fV {B:Nat} {w0:aC} {w:World} {N C L:List Rg} (h:St B w0 (N ++(C ++L)) w):St B w0 (N ++L) w:=
 h.sub (List.Sublist.append (List.Sublist.refl N) (List.sublist_append_right C L))
section
variable {P:Program} {n:Nat} {K:aW→Env→World→Prop} {l:List It} {O O':aW} {e:Env} {w:World} {i ty:Nat} {d:Tmp} {pos:String} {aft:Array Edge} {gd g:Option (Nat×Bool)}
variable {B:Nat} {w0:aC} {L L':List Rg} {D:EL}
theorem F3 (_:St B w0 L w) {t:TypeId} {x:Operand} {f c len cc j sz:Nat} {a:Option Addr} {X:List D.α} (off:Nat) (hX:LV D L c a len cc X) (m:j < len) (hf:bC P t f off=true) (hg:aI n e g=true) (hx:ev n e x= .pointer (a.map fun z=>⟨z.block,z.off+j*sz,none⟩))
   (h:aa P n K l O (an e d (.pointer (a.map fun z=>⟨z.block,z.off+j*sz+off,none⟩))) w):aa P n K (⟨i,true,⟨some d,.fieldAddr t x f,ty,pos,aft,gd⟩,g⟩::l) O e w:=by
 obtain ⟨hl,hc,hX⟩:=hX
 obtain ⟨o,ms,p,os,ps,G,rw,h1,h2,h3,q,r⟩:=hX (by omega)
 obtain ⟨b,s,k⟩:=h2 (by omega)
 subst k
 exact aa.fieldAddr off hf hg hx h
end
end Go.LW
namespace Go.LW
set_option linter.unusedSimpArgs false
set_option linter.unusedVariables false
set_option linter.unusedSectionVars false
open Go Go.RowKit
section
variable {P:Program} {n:Nat} {K:aW→Env→World→Prop} {l:List It} {O O':aW} {e:Env} {w:World} {i ty:Nat} {d:Tmp} {pos:String} {aft:Array Edge} {gd g:Option (Nat×Bool)}
variable {B:Nat} {w0:aC} {L L':List Rg}
theorem LV.lift {D:EL} (hf:D.flat) {L L':List Rg} {i:Nat} {a:Option Addr} {len cc:Nat} {X:List D.α} (h:LV D L i a len cc X) (hs:∀r∈L,r∈L'):∃d,LV D L' d a len cc X:=by
 by_cases c:0 < len
 · obtain ⟨h1,h2,h3⟩:=h
   obtain ⟨e,ms,f,os,ps,G,rw,g,l,m,n,o⟩:=h3 c
   obtain ⟨k,hk⟩:=List.mem_iff_getElem?.1 (hs _ (List.mem_of_getElem? g))
   exact ⟨k,h1,h2,fun _=>⟨e,ms,f,os,ps,G,rw,hk,l,m,n,fun j x hx=>by
     obtain ⟨b,s1,s2⟩:=o j x hx
     exact ⟨b,hf _ _ _ _ s1,s2⟩⟩⟩
 · exact ⟨0,h.1,h.2.1,fun h=>absurd h c⟩
end
end Go.LW
namespace Go.LW
set_option linter.unusedSimpArgs false
set_option linter.unusedVariables false
set_option linter.unusedSectionVars false
open Go Go.RowKit
section
variable {P:Program} {n:Nat} {K:aW→Env→World→Prop} {l:List It} {O O':aW} {e:Env} {w:World} {i ty:Nat} {d:Tmp} {pos:String} {aft:Array Edge} {gd g:Option (Nat×Bool)}
variable {B:Nat} {w0:aC} {L L':List Rg} {D:EL}
end
end Go.LW
