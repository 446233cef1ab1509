import Derived.WalkKit
import Derived.OrdersHeld
import Derived.Deep.MidRow
import Derived.Deep.Upon
import Derived.ChangeKeysEq
import Derived.Laws.Pointers
import Derived.Lib.LaidTab
import Derived.Laws.BytesArg
import Derived.Lib.SlBytesConst
import Derived.Laws.MakeOwn
namespace Go.LW
set_option linter.unusedSimpArgs false
set_option linter.unusedVariables false
set_option linter.unusedSectionVars false
open Go Go.RowKit
abbrev Env := Nat → Value
def upd {α : Type} (e : Nat → α) (d : Nat) (v : α) : Nat → α := fun i => cond (Nat.beq i d) v (e i)
theorem upd_at {α : Type} (e : Nat → α) (d : Nat) (v : α) (i : Nat) : upd e d v i = if i = d then v else e i := by
 show cond (Nat.beq i d) v (e i) = _
 cases hb : Nat.beq i d with
 | true => simp [Nat.eq_of_beq_eq_true hb]
 | false => simp [Nat.ne_of_beq_eq_false hb]
def updO (e : Env) (d : Option Nat) (v : Value) : Env := match d with | some d => upd e d v | none => e
theorem upd_same {α : Type} (e : Nat → α) (d : Nat) (v : α) : upd e d v d = v := by simp [upd_at]
theorem upd_ne {α : Type} (e : Nat → α) (d : Nat) (v : α) (i : Nat) (h : i ≠ d) : upd e d v i = e i := by simp [upd_at, h]
def act (n : Nat) (e : Env) : Act := { tmps := Array.ofFn (n := n) fun i => e i.val, defers := [] }
def ev (n : Nat) (e : Env) : Operand → Value
 | .tmp t => cond (Nat.blt t n) (e t) undef
 | .const v => v
 | .global g => .pointer (some ⟨g, 0, none⟩)
 | .func f => .func (.func f) #[] #[]
theorem ev_tmp (n : Nat) (e : Env) (t : Nat) : ev n e (.tmp t) = if t < n then e t else undef := by
 show cond (Nat.blt t n) (e t) undef = _
 by_cases h : t < n
 · have : Nat.blt t n = true := by simpa [Nat.blt_eq] using h
   simp [h, this]
 · have : Nat.blt t n = false := by
     cases hb : Nat.blt t n with
     | false => rfl
     | true => exact absurd (by simpa [Nat.blt_eq] using hb) h
   simp [h, this]
theorem act_get (n : Nat) (e : Env) (t : Nat) : (act n e).tmps[t]? = if t < n then some (e t) else none := by
 unfold act
 by_cases h : t < n
 · simp [h]
 · simp [h]
theorem act_eval (n : Nat) (e : Env) : (act n e).eval = ev n e := by
 funext x
 cases x with
 | tmp t =>
   show (act n e).tmps.getD t undef = cond (Nat.blt t n) (e t) undef
   rw [Array.getD_eq_getD_getElem?, act_get]
   by_cases h : t < n
   · have : Nat.blt t n = true := by simpa [Nat.blt_eq] using h
     simp [h, this]
   · have : Nat.blt t n = false := by
       cases hb : Nat.blt t n with
       | false => rfl
       | true => exact absurd (by simpa [Nat.blt_eq] using hb) h
     simp [h, this]
 | const v => rfl
 | global g => rfl
 | func f => rfl
theorem act_put (n : Nat) (e : Env) (d : Option Nat) (v : Value) : (act n e).put d v = act n (updO e d v) := by
 cases d with
 | none => rfl
 | some d =>
   show (⟨(Array.ofFn (n := n) fun i => e i.val).setIfInBounds d v, []⟩ : Act) = ⟨Array.ofFn (n := n) fun i => upd e d v i.val, []⟩
   congr 1
   apply Array.ext_getElem?
   intro i
   rw [Array.getElem?_setIfInBounds]
   by_cases hid : d = i
   · subst hid
     by_cases hn : d < n <;> simp [hn, upd_at]
   · by_cases hn : i < n <;> simp [hid, hn, upd_at, Ne.symm hid]
theorem act_enter (n : Nat) (args : Array Value) (h : args.size ≤ n) :
   ({ tmps := args ++ Array.replicate (n - args.size) undef, defers := [] } : Act) = act n (fun i => args.getD i undef) := by
 unfold act
 congr 1
 apply Array.ext
 · simp; omega
 · intro i h1 h2
   simp only [Array.getElem_ofFn]
   by_cases hi : i < args.size
   · rw [Array.getElem_append_left hi]; simp [hi]
   · rw [Array.getElem_append_right (by omega)]; simp [hi]
def QE (n : Nat) (R : Exit → Env → World → Prop) : Exit → Act → World → Prop
 | .panic _, _, _ => False
 | .outgrown, _, _ => False
 | x, a, w => ∃ e, a = act n e ∧ R x e w
def W (P : Program) (n : Nat) (c : Code) (R : Exit → Env → World → Prop) (e : Env) (w : World) : Prop := c.wp P (QE n R) (act n e) w
def thenR (K : Env → World → Prop) (R : Exit → Env → World → Prop) : Exit → Env → World → Prop
 | .normal, e, w => K e w
 | x, e, w => R x e w
def blockR (id : Nat) (R : Exit → Env → World → Prop) : Exit → Env → World → Prop
 | .exit id', e, w => if id' = id then R .normal e w else R (.exit id') e w
 | x, e, w => R x e w
section code
variable {P : Program} {n : Nat} {R : Exit → Env → World → Prop} {e : Env} {w : World}
theorem W.mono {c : Code} {R' : Exit → Env → World → Prop} (h : W P n c R e w) (hR : ∀ x e w, R x e w → R' x e w) : W P n c R' e w :=
 wp_mono h fun x a w hq => by
   cases x <;> first | exact hq | (obtain ⟨e, he, hr⟩ := hq; exact ⟨e, he, hR _ _ _ hr⟩)
theorem W.seq {x y : Code} (h : W P n x (thenR (fun e w => W P n y R e w) R) e w) : W P n (.seq x y) R e w :=
 wp_seq (wp_mono h fun ex a w hq => by
   cases ex <;> first | exact hq | (obtain ⟨e, he, hr⟩ := hq; subst he; exact hr) | (obtain ⟨e, he, hr⟩ := hq; exact ⟨e, he, hr⟩))
theorem W.seq_k {x y : Code} (h : ∀ K : Env → World → Prop, (∀ e w, W P n y R e w → K e w) → W P n x (thenR K R) e w) : W P n (.seq x y) R e w :=
 W.seq (h _ fun _ _ h => h)
theorem W.skip (h : R .normal e w) : W P n .skip R e w := wp_skip (P := P) (Q := QE n R) ⟨e, rfl, h⟩
theorem W.exit {id : Nat} (h : R (.exit id) e w) : W P n (.exit id) R e w := wp_exit (P := P) (Q := QE n R) ⟨e, rfl, h⟩
theorem W.ret (h : R .ret e w) : W P n .ret R e w := wp_ret (P := P) (Q := QE n R) ⟨e, rfl, h⟩
theorem W.block {id : Nat} {c : Code} (h : W P n c (blockR id R) e w) : W P n (.block id c) R e w :=
 wp_block (wp_mono h fun ex a w hq => by
   cases ex with
   | exit id' =>
     obtain ⟨e, he, hr⟩ := hq
     unfold blockR at hr
     unfold Exit.inBlock
     by_cases hid : id' = id
     · simp only [hid, if_true] at hr ⊢; exact ⟨e, he, hr⟩
     · simp only [hid, if_false] at hr ⊢; exact ⟨e, he, hr⟩
   | _ => exact hq)
theorem W.cond {c : Operand} {x y : Code} {b : Bool} (hc : ev n e c = .bool b) (h : W P n (if b then x else y) R e w) : W P n (.cond c x y) R e w :=
 wp_cond (by rw [act_eval]; exact hc) h
theorem W.condT {c : Operand} {x y : Code} (hc : ev n e c = .bool true) (h : W P n x R e w) : W P n (.cond c x y) R e w := W.cond hc h
theorem W.condF {c : Operand} {x y : Code} (hc : ev n e c = .bool false) (h : W P n y R e w) : W P n (.cond c x y) R e w := W.cond hc h
theorem wp_loop_rank {c : Code} {Q : Exit → Act → World → Prop} {a : Act} {w : World} (I : Nat → Act → World → Prop) (m0 : Nat) (h0 : I m0 a w)
   (round : ∀ m a w, I m a w → c.wp P (Exit.then (fun a' w' => ∃ m', m' < m ∧ I m' a' w') Q) a w) : (Code.loop c).wp P Q a w := by
 intro b k cs
 have key : ∀ m a w, I m a w → ∃ e a' w', Q e a' w' ∧ Arrives P (lone (b.at a (.code c :: .inLoop c :: k)) cs w) b k cs e a' w' := by
   intro m
   induction m using Nat.strongRecOn with
   | _ m ih =>
     intro a w hI
     obtain ⟨e, a₁, w₁, hq, harr⟩ := round m a w hI b (.inLoop c :: k) cs
     cases e with
     | normal =>
       obtain ⟨m', hlt, hI₁⟩ := hq
       obtain ⟨e₂, a₂, w₂, hq₂, harr₂⟩ := ih m' hlt a₁ w₁ hI₁
       exact ⟨e₂, a₂, w₂, hq₂, .of_steps (Steps.trans harr (.one step_inLoop)) harr₂⟩
     | exit id => exact ⟨_, a₁, w₁, hq, .pass (x := .inLoop c) rfl (fun _ _ => .inl (by simp)) harr⟩
     | goto l => exact ⟨_, a₁, w₁, hq, .pass (x := .inLoop c) rfl (fun _ _ => .inl (by simp)) harr⟩
     | ret => exact ⟨_, a₁, w₁, hq, .pass (x := .inLoop c) rfl (fun _ _ => .inl (by simp)) harr⟩
     | panic ch => exact ⟨_, a₁, w₁, hq, .pass (x := .inLoop c) rfl (fun _ _ => .inl (by simp)) harr⟩
     | outgrown => exact ⟨_, a₁, w₁, hq, .pass (x := .inLoop c) rfl (fun _ _ => .inl (by simp)) harr⟩
 obtain ⟨e, a', w', hq, harr⟩ := key _ a w h0
 exact ⟨e, a', w', hq, .of_steps (.one step_loop) harr⟩
theorem W.loop {c : Code} (I : Nat → Env → World → Prop) (m0 : Nat) (h0 : I m0 e w)
   (round : ∀ m e w, I m e w → W P n c (thenR (fun e' w' => ∃ m', m' < m ∧ I m' e' w') R) e w) : W P n (.loop c) R e w := by
 refine wp_loop_rank (fun m a w => ∃ e, a = act n e ∧ I m e w) m0 ⟨e, rfl, h0⟩ ?_
 rintro m a w ⟨e, rfl, hI⟩
 refine wp_mono (round m e w hI) fun x a' w' hx => ?_
 cases x <;> first | exact hx | (obtain ⟨e', rfl, m', hm, hI'⟩ := hx; exact ⟨m', hm, e', rfl, hI'⟩) | (obtain ⟨e', he, hr⟩ := hx; exact ⟨e', he, hr⟩)
theorem W.cut {c : Code} {K : Env → World → Prop} (J : Env → World → Prop) (h : W P n c (thenR J R) e w) (hJ : ∀ e w, J e w → K e w) : W P n c (thenR K R) e w :=
 h.mono fun x e w hx => by cases x <;> first | exact hJ _ _ hx | exact hx
end code
structure It where
 i : Nat
 st : Bool
 o : Oper
 g : Option (Nat × Bool)
def gslot (ops : Array Oper) (o : Oper) : Option (Nat × Bool) :=
 match o.guard with
 | none => none
 | some (j, want) => match (ops.getD j default).dst with
   | some d => some (d, want)
   | none => some (1000000, want)
def items (ops : Array Oper) (σ : List (Nat × Bool)) : List It := σ.map fun p => ⟨p.1, p.2, ops.getD p.1 default, gslot ops (ops.getD p.1 default)⟩
def waitsO (o : Oper) (i : Nat) : Bool := o.after.toList.any fun e => Region.binds .any e && Nat.beq e.on i
def wantedE (n : Nat) (e : Env) : Option (Nat × Bool) → Bool
 | none => true
 | some (t, want) => match ev n e (.tmp t) with
   | .bool b => b == want
   | _ => false
abbrev Pend := List (Nat × (World → Prop))
def uponE (P : Program) (K : Value → World → Prop) : Result Next → Prop
 | .ok (.value v) w' => K v w'
 | .ok .skip w' => K undef w'
 | .ok (.enter f args) w' => Calls P f args w' fun e w'' => ∃ v, e = .returned v ∧ K v w''
 | _ => False
def Plan (P : Program) (n : Nat) (K : Pend → Env → World → Prop) : List It → Pend → Env → World → Prop
 | [], O, e, w => K O e w
 | it :: l, O, e, w =>
   if wantedE n e it.g then
     if it.st then ∃ v, ((∀ w, (execOp (ev n e) it.o).run P w = .ok (.value v) w) ∧ Plan P n K l O (updO e it.o.dst v) w) ∨
       (∃ S : World → Prop, S w ∧ (∀ w, S w → (execOp (ev n e) it.o).run P w = .ok (.value v) w) ∧ Plan P n K l ((it.i, S) :: O) (updO e it.o.dst v) w)
     else uponE P (fun v w' => ((∀ p ∈ O, p.2 w → p.2 w') ∧ Plan P n K l O (updO e it.o.dst v) w') ∨ (O.all (fun p => waitsO it.o p.1) = true ∧ Plan P n K l [] (updO e it.o.dst v) w') ∨
         ((∀ p ∈ O, waitsO it.o p.1 = false → p.2 w → p.2 w') ∧ Plan P n K l (O.filter fun p => !waitsO it.o p.1) (updO e it.o.dst v) w'))
       ((execOp (ev n e) it.o).run P w)
   else Plan P n K l O (updO e it.o.dst undef) w
theorem uponE_mono {P : Program} {K K' : Value → World → Prop} (h : ∀ v w, K v w → K' v w) {r : Result Next} (hr : uponE P K r) : uponE P K' r := by
 cases r with
 | ok x w =>
   cases x <;> simp only [uponE] at hr ⊢
   case value v => exact h _ _ hr
   case skip => exact h _ _ hr
   case enter f args => exact hr.mono fun e w' ⟨v, he, hv⟩ => ⟨v, he, h _ _ hv⟩
 | halt x w => simp only [uponE] at hr
theorem Plan.mono {P : Program} {n : Nat} {K K' : Pend → Env → World → Prop} (h : ∀ O e w, K O e w → K' O e w) : ∀ (l : List It) (O : Pend) (e : Env) (w : World), Plan P n K l O e w → Plan P n K' l O e w
 | [], _, _, _, hp => h _ _ _ hp
 | it :: l, O, e, w, hp => by
   unfold Plan at hp ⊢
   split
   · rename_i hw
     rw [if_pos hw] at hp
     split
     · rename_i hst
       rw [if_pos hst] at hp
       obtain ⟨v, ⟨h3, h4⟩ | ⟨S, h2, h3, h4⟩⟩ := hp
       · exact ⟨v, .inl ⟨h3, Plan.mono h l _ _ _ h4⟩⟩
       · exact ⟨v, .inr ⟨S, h2, h3, Plan.mono h l _ _ _ h4⟩⟩
     · rename_i hst
       rw [if_neg hst] at hp
       exact uponE_mono (fun v w' hk => hk.imp (fun ⟨a, b⟩ => ⟨a, Plan.mono h l _ _ _ b⟩) (Or.imp (fun ⟨a, b⟩ => ⟨a, Plan.mono h l _ _ _ b⟩) (fun ⟨a, b⟩ => ⟨a, Plan.mono h l _ _ _ b⟩))) hp
   · rename_i hw
     rw [if_neg hw] at hp
     exact Plan.mono h l _ _ _ hp
def planP (ops : Array Oper) : List (Nat × Bool) → Array Bool → Option (Array Bool)
 | [], listed => some listed
 | (i, true) :: σ, listed => if (Region.ready .any ops listed).contains i && Region.free .any ops listed i then planP ops σ (listed.setIfInBounds i true) else none
 | (i, false) :: σ, listed => if Region.ready .any ops listed == [i] then planP ops σ (listed.setIfInBounds i true) else none
inductive Tr
 | line (σ : List (Nat × Bool))
 | fork (σ : List (Nat × Bool)) (a b : Tr)
def Tr.heads : Tr → List Nat
 | .line σ => (σ.head?.map (·.1)).toList
 | .fork σ a b => match σ with
   | [] => a.heads ++ b.heads
   | p :: _ => [p.1]
def Tr.depth : Tr → Nat
 | .line σ => σ.length
 | .fork σ a _ => σ.length + a.depth
def Tr.even : Tr → Bool
 | .line _ => true
 | .fork _ a b => a.even && b.even && (a.depth == b.depth)
def offFirst (first : Bool) (σ : List (Nat × Bool)) (l : Array Bool) : Option (List (Nat × Bool) × Array Bool) :=
 if first then match σ with
   | (i, false) :: σ' => some (σ', l.setIfInBounds i true)
   | _ => none
 else some (σ, l)
def planG (ops : Array Oper) (first : Bool) : Tr → Array Bool → Bool
 | .line σ, l => match offFirst first σ l with
   | some (σ', l') => match planP ops σ' l' with
     | some l'' => Region.ready .any ops l'' == []
     | none => false
   | none => false
 | .fork σ a b, l =>
   if first && σ.isEmpty then planG ops true a l && planG ops true b l
   else match offFirst first σ l with
     | some (σ', l') => match planP ops σ' l' with
       | some l'' => !(Region.ready .any ops l'').isEmpty && (Region.ready .any ops l'').all (fun j => (a.heads ++ b.heads).contains j) && planG ops true a l'' && planG ops true b l''
       | none => false
     | none => false
def planTok (ops : Array Oper) (n : Nat) (t : Tr) : Bool :=
 Region.noSelect ops && t.even && (t.depth == ops.size) && Nat.ble n 1000000 && planG ops false t (Array.replicate ops.size false)
def PlanT (P : Program) (n : Nat) (ops : Array Oper) (K : Env → World → Prop) : Tr → Pend → Env → World → Prop
 | .line σ, O, e, w => Plan P n (fun _ e w => K e w) (items ops σ) O e w
 | .fork σ a b, O, e, w => Plan P n (fun O e w => PlanT P n ops K a O e w ∧ PlanT P n ops K b O e w) (items ops σ) O e w
theorem PlanT.mono {P : Program} {n : Nat} {ops : Array Oper} {K K' : Env → World → Prop} (h : ∀ e w, K e w → K' e w) : ∀ (t : Tr) (O : Pend) (e : Env) (w : World), PlanT P n ops K t O e w → PlanT P n ops K' t O e w
 | .line _, _, _, _, hp => Plan.mono (fun _ _ _ hk => h _ _ hk) _ _ _ _ hp
 | .fork _ a b, _, _, _, hp => Plan.mono (fun _ _ _ hk => ⟨PlanT.mono h a _ _ _ hk.1, PlanT.mono h b _ _ _ hk.2⟩) _ _ _ _ hp
section plans
variable {P : Program} {n : Nat} {ops : Array Oper} {Q : Exit → Act → World → Prop}
def wpAnyO (P : Program) (ops : Array Oper) (Q : Exit → Act → World → Prop) : Pend → Nat → Array Bool → Act → World → Prop
 | _, 0, listed, a, w => Region.ready .any ops listed = [] ∧ Q .normal a w
 | O, f + 1, listed, a, w =>
   (Region.ready .any ops listed = [] → Q .normal a w) ∧
   ∀ j ∈ Region.ready .any ops listed, wpOp P ops Q j (fun a' w' => (∀ p ∈ O, waitsO (ops.getD j default) p.1 = false → p.2 w') ∧
     wpAnyO P ops Q (O.filter fun p => !waitsO (ops.getD j default) p.1) f (listed.setIfInBounds j true) a' w') a w
theorem anyO_any : ∀ (f : Nat) (O : Pend) (listed : Array Bool) (a : Act) (w : World), wpAnyO P ops Q O f listed a w → wpAny P .any ops Q f listed a w
 | 0, _, _, _, _, h => h
 | f + 1, _, _, _, _, h => ⟨h.1, fun j hj => wpOp_mono (fun a' w' h' => anyO_any f _ _ a' w' h'.2) (h.2 j hj)⟩
theorem anyO_weaken : ∀ (f : Nat) (O O' : Pend) (listed : Array Bool) (a : Act) (w : World), (∀ p ∈ O', p ∈ O ∨ ∀ w, p.2 w) → wpAnyO P ops Q O f listed a w → wpAnyO P ops Q O' f listed a w
 | 0, _, _, _, _, _, _, h => h
 | f + 1, O, O', listed, a, w, hs, h => ⟨h.1, fun j hj => wpOp_mono (fun a' w' h' => ⟨fun p hp hw => (hs p hp).elim (fun h => h'.1 p h hw) (fun h => h w'),
     anyO_weaken f _ _ _ _ _ (fun p hp => by simp only [List.mem_filter] at *; exact (hs p hp.1).imp (fun h => ⟨h, hp.2⟩) id) h'.2⟩) (h.2 j hj)⟩
theorem ops_getD {i : Nat} {o : Oper} (h : ops[i]? = some o) : ops.getD i default = o := by
 rw [Array.getD_eq_getD_getElem?, h]; rfl
theorem anyO_first {i : Nat} {oi : Oper} {v : Value} {S : World → Prop} (hi : ops[i]? = some oi) (hsel : ∀ (j : Nat) (o : Oper) cs b, ops[j]? = some o → o.op ≠ .select cs b)
   (hQ : ∀ c a w, Q (.panic c) (a.put oi.dst v) w → Q (.panic c) a w) :
   ∀ (f : Nat) (O : Pend) (listed : Array Bool) (a : Act) (w : World), (∀ p ∈ O, p.2 w) →
     (∀ j oj, ops[j]? = some oj → j ≠ i → listed.getD j true = false → (∀ e ∈ oj.after, Region.binds .any e = true → e.on ≠ i) → oi.apart ops oj = true) →
     i ∈ Region.ready .any ops listed → YieldsIf P ops S oi v a → S w →
     wpAnyO P ops Q ((i, S) :: O) f (listed.setIfInBounds i true) (a.put oi.dst v) w → wpAnyO P ops Q O (f + 1) listed a w := by
 intro f
 induction f with
 | zero =>
   intro O listed a w hO _ hr hy hS H
   refine ⟨fun h => (by rw [h] at hr; cases hr), fun j hj => ?_⟩
   by_cases hji : j = i
   · subst hji
     exact hy.wpOp hi hS ⟨fun p hp _ => hO p hp, H⟩
   · have := ready_mono hj hji
     rw [H.1] at this
     cases this
 | succ f ih =>
   intro O listed a w hO hfree hr hy hS H
   refine ⟨fun h => (by rw [h] at hr; cases hr), fun j hj => ?_⟩
   by_cases hji : j = i
   · subst hji
     exact hy.wpOp hi hS ⟨fun p hp _ => hO p hp, anyO_weaken _ _ _ _ _ _ (fun p hp => .inl (List.mem_cons_of_mem _ (List.mem_filter.1 hp).1)) H⟩
   · have h1 := H.2 j (ready_mono hj hji)
     obtain ⟨hjun, oj, hoj, hall⟩ := mem_ready.1 hj
     have hnot : ∀ e ∈ oj.after, Region.binds .any e = true → e.on ≠ i := fun e he hb heq => by
       have h1 := hall e he hb
       have h0 := (mem_ready.1 hr).1
       rw [heq] at h1
       rcases Nat.lt_or_ge i listed.size with h' | h'
       · simp [h'] at h0 h1; rw [h0] at h1; cases h1
       · simp [Array.getElem?_eq_none h'] at h1
     have hwait : waitsO (ops.getD j default) i = false := by
       rw [ops_getD hoj]
       unfold waitsO
       cases hb : oj.after.toList.any (fun e => Region.binds .any e && Nat.beq e.on i) with
       | false => rfl
       | true =>
         obtain ⟨e, he, hb⟩ := List.any_eq_true.1 hb
         simp only [Bool.and_eq_true] at hb
         exact absurd (Nat.eq_of_beq_eq_true hb.2) (hnot e (by simpa using he) hb.1)
     have h2 := wpOp_putIf hoj (hfree j oj hoj hji hjun hnot) (fun cs b => hsel i oi cs b hi) (fun cs b => hsel j oj cs b hoj) hQ hy h1
     have hfree' : ∀ k ok, ops[k]? = some ok → k ≠ i → (listed.setIfInBounds j true).getD k true = false →
         (∀ e ∈ ok.after, Region.binds .any e = true → e.on ≠ i) → oi.apart ops ok = true := fun k ok hk hki hun hno => by
       refine hfree k ok hk hki ?_ hno
       by_cases hjk : j = k
       · subst hjk; exact hjun
       · rw [getD_set_ne true hjk] at hun; exact hun
     refine wpOp_mono (fun a' w' h3 => ?_) h2
     obtain ⟨hy', hpend, hrest⟩ := h3
     have hS' : S w' := hpend (i, S) List.mem_cons_self hwait
     refine ⟨fun p hp hw => hpend p (List.mem_cons_of_mem _ hp) hw, ?_⟩
     refine ih _ (listed.setIfInBounds j true) a' w' ?_ hfree' (ready_mono hr (Ne.symm hji)) hy' hS' ?_
     · intro p hp
       simp only [List.mem_filter, Bool.not_eq_true'] at hp
       exact hpend p (List.mem_cons_of_mem _ hp.1) hp.2
     · rw [Array.setIfInBounds_comm _ _ hji]
       have hfil : ((i, S) :: O).filter (fun p => !waitsO (ops.getD j default) p.1) = (i, S) :: O.filter (fun p => !waitsO (ops.getD j default) p.1) := by
         rw [List.filter_cons, if_pos (by show (!waitsO (ops.getD j default) i) = true; rw [hwait]; rfl)]
       rw [hfil] at hrest
       exact hrest
theorem gslot_spec (e : Env) {o : Oper} (hn : n ≤ 1000000) : wantedE n e (gslot ops o) = Region.wanted o (yielded ops (act n e).tmps) := by
 unfold gslot Region.wanted wantedE yielded
 cases hg : o.guard with
 | none => rfl
 | some jw =>
   obtain ⟨j, want⟩ := jw
   simp only
   rw [Array.getD_eq_getD_getElem?]
   have hbig : ev n e (.tmp 1000000) = undef := by rw [ev_tmp, if_neg (by omega)]
   cases ho : ops[j]? with
   | none =>
     have h1 : ((default : Oper).dst) = none := rfl
     simp only [Option.getD_none, h1, Option.bind_none, hbig]
     rfl
   | some oj =>
     simp only [Option.getD_some, Option.bind_some]
     cases hd : oj.dst with
     | none =>
       simp only [hbig, Option.bind_none]; rfl
     | some d =>
       simp only [Option.bind_some, act_get, ev_tmp]
       by_cases h : d < n
       · simp only [h, if_true]
         cases hv : e d <;> simp
       · simp only [h, if_false]
         rfl
theorem upon_wp {o : Oper} {e : Env} {w : World} {K : Value → World → Prop} {K' : Act → World → Prop} (hK : ∀ v w', K v w' → K' (act n (updO e o.dst v)) w')
   (h : uponE P K ((execOp (ev n e) o).run P w)) : o.wp P (act n e) w K' Q := by
 unfold Oper.wp
 rw [act_eval]
 generalize (execOp (ev n e) o).run P w = r at *
 cases r with
 | ok x w' =>
   cases x <;> simp only [uponE] at h <;> simp only [Oper.upon]
   case value v => rw [act_put]; exact hK _ _ h
   case skip => rw [act_put]; exact hK _ _ h
   case enter f args =>
     refine h.mono fun x w'' hx => ?_
     obtain ⟨v, rfl, hv⟩ := hx
     simp only
     rw [act_put]; exact hK _ _ hv
 | halt x w' => simp only [uponE] at h
theorem eff_step (hn : n ≤ 1000000) {K : Pend → Env → World → Prop} {f i : Nat} {σ : List (Nat × Bool)} {O : Pend} {listed : Array Bool} {e : Env} {w : World} (hr' : i ∈ Region.ready .any ops listed) (hO : ∀ p ∈ O, p.2 w)
   (hnext : ∀ (O : Pend) (e : Env) (w : World), (∀ p ∈ O, p.2 w) → Plan P n K (items ops σ) O e w → wpAnyO P ops Q O f (listed.setIfInBounds i true) (act n e) w)
   (h : Plan P n K (items ops ((i, false) :: σ)) O e w) :
   wpOp P ops Q i (fun a' w' => (∀ p ∈ O, waitsO (ops.getD i default) p.1 = false → p.2 w') ∧ wpAnyO P ops Q (O.filter fun p => !waitsO (ops.getD i default) p.1) f (listed.setIfInBounds i true) a' w') (act n e) w := by
 obtain ⟨_, oi, hoi, _⟩ := mem_ready.1 hr'
 have hit : items ops ((i, false) :: σ) = ⟨i, false, ops.getD i default, gslot ops (ops.getD i default)⟩ :: items ops σ := rfl
 rw [hit, ops_getD hoi] at h
 unfold Plan at h
 rw [gslot_spec e hn] at h
 unfold wpOp
 simp only [hoi]
 by_cases hw : Region.wanted oi (yielded ops (act n e).tmps) = true
 · rw [if_pos hw] at h
   simp only [hw, if_true]
   simp only [Bool.false_eq_true, if_false] at h
   refine .inl (upon_wp (fun v w' hk => ?_) h)
   rw [ops_getD hoi]
   rcases hk with ⟨hb, hrest⟩ | ⟨hall, hrest⟩ | ⟨hb, hrest⟩
   · have hO' : ∀ p ∈ O, p.2 w' := fun p hp => hb p hp (hO p hp)
     exact ⟨fun p hp _ => hO' p hp, anyO_weaken _ _ _ _ _ _ (fun p hp => .inl (List.mem_filter.1 hp).1) (hnext _ _ _ hO' hrest)⟩
   · rw [List.all_eq_true] at hall
     refine ⟨fun p hp hw0 => absurd (hall p hp) (by rw [hw0]; exact Bool.false_ne_true), anyO_weaken _ _ _ _ _ _ (fun p hp => ?_) (hnext [] _ _ (fun p hp => by cases hp) hrest)⟩
     simp only [List.mem_filter, Bool.not_eq_true'] at hp
     rw [hall p hp.1] at hp
     cases hp.2
   · refine ⟨fun p hp hw0 => hb p hp hw0 (hO p hp), hnext _ _ _ (fun p hp => ?_) hrest⟩
     simp only [List.mem_filter, Bool.not_eq_true'] at hp
     exact hb p hp.1 hp.2 (hO p hp.1)
 · rw [if_neg hw] at h
   simp only [hw, Bool.false_eq_true, if_false]
   rw [act_put, ops_getD hoi]
   exact ⟨fun p hp _ => hO p hp, anyO_weaken _ _ _ _ _ _ (fun p hp => .inl (List.mem_filter.1 hp).1) (hnext _ _ _ hO h)⟩
theorem plan_pre (hn : n ≤ 1000000) (hs : Region.noSelect ops = true) (hQ : ∀ c a w, ¬ Q (.panic c) a w) {K : Pend → Env → World → Prop} {f : Nat} {l' : Array Bool}
   (hK : ∀ (O : Pend) (e : Env) (w : World), (∀ p ∈ O, p.2 w) → K O e w → wpAnyO P ops Q O f l' (act n e) w) :
   ∀ (σ : List (Nat × Bool)) (O : Pend) (listed : Array Bool) (e : Env) (w : World), planP ops σ listed = some l' → (∀ p ∈ O, p.2 w) →
     Plan P n K (items ops σ) O e w → wpAnyO P ops Q O (σ.length + f) listed (act n e) w
 | [], O, listed, e, w, hB, hO, h => by
   simp only [planP, Option.some.injEq] at hB
   subst hB
   rw [List.length_nil, Nat.zero_add]
   exact hK O e w hO h
 | (i, true) :: σ, O, listed, e, w, hB, hO, h => by
   simp only [planP] at hB
   split at hB
   · rename_i hrf
     simp only [Bool.and_eq_true] at hrf
     obtain ⟨hr, hf⟩ := hrf
     have hB' := hB
     have hr' : i ∈ Region.ready .any ops listed := by simpa using hr
     obtain ⟨_, oi, hoi, _⟩ := mem_ready.1 hr'
     have hit : items ops ((i, true) :: σ) = ⟨i, true, ops.getD i default, gslot ops (ops.getD i default)⟩ :: items ops σ := rfl
     rw [hit, ops_getD hoi] at h
     unfold Plan at h
     rw [gslot_spec e hn] at h
     rw [List.length_cons, Nat.add_right_comm]
     by_cases hw : Region.wanted oi (yielded ops (act n e).tmps) = true
     · rw [if_pos hw] at h
       simp only [if_true] at h
       obtain ⟨v, ⟨hrun, hrest⟩ | ⟨S, hS, hrun, hrest⟩⟩ := h
       · refine anyO_first hoi (Region.noSelect_spec hs) (fun c a w hq => absurd hq (hQ _ _ _)) (σ.length + f) O listed (act n e) w (fun p hp => hO p hp) (Region.free_spec hoi hf) hr'
           (v := v) (S := fun _ => True) (.inl ⟨hw, fun w' _ => by rw [act_eval]; exact hrun w'⟩) trivial ?_
         rw [act_put]
         exact anyO_weaken _ O _ _ _ _ (fun p hp => by
           rcases List.mem_cons.1 hp with rfl | hp
           · exact .inr fun _ => trivial
           · exact .inl hp) (plan_pre hn hs hQ hK σ _ _ _ _ hB' hO hrest)
       · refine anyO_first hoi (Region.noSelect_spec hs) (fun c a w hq => absurd hq (hQ _ _ _)) (σ.length + f) O listed (act n e) w (fun p hp => hO p hp) (Region.free_spec hoi hf) hr'
           (v := v) (S := S) (.inl ⟨hw, fun w' hw' => by rw [act_eval]; exact hrun w' hw'⟩) hS ?_
         rw [act_put]
         exact plan_pre hn hs hQ hK σ _ _ _ _ hB' (fun p hp => by
           rcases List.mem_cons.1 hp with rfl | hp
           · exact hS
           · exact hO p hp) hrest
     · rw [if_neg hw] at h
       refine anyO_first hoi (Region.noSelect_spec hs) (fun c a w hq => absurd hq (hQ _ _ _)) (σ.length + f) O listed (act n e) w (fun p hp => hO p hp) (Region.free_spec hoi hf) hr'
         (v := undef) (S := fun _ => True) (.inr ⟨by simpa using hw, rfl⟩) trivial ?_
       rw [act_put]
       exact anyO_weaken _ O _ _ _ _ (fun p hp => by
         rcases List.mem_cons.1 hp with rfl | hp
         · exact .inr fun _ => trivial
         · exact .inl hp) (plan_pre hn hs hQ hK σ _ _ _ _ hB' hO h)
   · cases hB
 | (i, false) :: σ, O, listed, e, w, hB, hO, h => by
   simp only [planP] at hB
   split at hB
   · rename_i hr
     rw [beq_iff_eq] at hr
     rw [List.length_cons, Nat.add_right_comm]
     refine ⟨fun h0 => (by rw [h0] at hr; cases hr), fun j hj => ?_⟩
     rw [hr] at hj
     obtain rfl : j = i := by simpa using hj
     exact eff_step hn (by rw [hr]; simp) hO (fun O e w hO h => plan_pre hn hs hQ hK σ O _ e w hB hO h) h
   · cases hB
theorem fork_step {K : Env → World → Prop} {a b : Tr} {l'' : Array Bool} (hd : a.depth = b.depth)
   (hne : (Region.ready .any ops l'').isEmpty = false) (hall : (Region.ready .any ops l'').all (fun j => (a.heads ++ b.heads).contains j) = true)
   (ha : ∀ (O : Pend) (e : Env) (w : World) (j f : Nat), (∀ p ∈ O, p.2 w) → PlanT P n ops K a O e w → j ∈ a.heads → j ∈ Region.ready .any ops l'' → a.depth = f + 1 →
     wpOp P ops Q j (fun a' w' => (∀ p ∈ O, waitsO (ops.getD j default) p.1 = false → p.2 w') ∧ wpAnyO P ops Q (O.filter fun p => !waitsO (ops.getD j default) p.1) f (l''.setIfInBounds j true) a' w') (act n e) w)
   (hb : ∀ (O : Pend) (e : Env) (w : World) (j f : Nat), (∀ p ∈ O, p.2 w) → PlanT P n ops K b O e w → j ∈ b.heads → j ∈ Region.ready .any ops l'' → b.depth = f + 1 →
     wpOp P ops Q j (fun a' w' => (∀ p ∈ O, waitsO (ops.getD j default) p.1 = false → p.2 w') ∧ wpAnyO P ops Q (O.filter fun p => !waitsO (ops.getD j default) p.1) f (l''.setIfInBounds j true) a' w') (act n e) w)
   (hpos : 0 < a.depth) (O : Pend) (e : Env) (w : World) (hO : ∀ p ∈ O, p.2 w) (h : PlanT P n ops K a O e w ∧ PlanT P n ops K b O e w) : wpAnyO P ops Q O a.depth l'' (act n e) w := by
 obtain ⟨f, hf⟩ : ∃ f, a.depth = f + 1 := ⟨a.depth - 1, by omega⟩
 rw [hf]
 refine ⟨fun h0 => (by rw [h0] at hne; cases hne), fun j hj => ?_⟩
 have h1 := List.all_eq_true.1 hall j hj
 have h2 : j ∈ a.heads ++ b.heads := by simpa using h1
 rcases List.mem_append.1 h2 with h3 | h3
 · exact ha O e w j f hO h.1 h3 hj hf
 · exact hb O e w j f hO h.2 h3 hj (by omega)
theorem Tr.depth_pos : ∀ (t : Tr) (l : Array Bool), planG ops true t l = true → 0 < t.depth
 | .line σ, l, h => by
   cases σ with
   | nil => simp [planG, offFirst] at h
   | cons p σ => simp [Tr.depth]
 | .fork σ a b, l, h => by
   cases σ with
   | nil =>
     simp only [planG, List.isEmpty_nil, Bool.and_self, if_true, Bool.and_eq_true] at h
     have := Tr.depth_pos a l h.1
     simp [Tr.depth]; exact this
   | cons p σ => simp [Tr.depth]; omega
theorem eff_sound (hn : n ≤ 1000000) (hs : Region.noSelect ops = true) (hQ : ∀ c a w, ¬ Q (.panic c) a w) :
   ∀ (t : Tr) (l : Array Bool), t.even = true → planG ops true t l = true → ∀ (O : Pend) (e : Env) (w : World) (j f : Nat), (∀ p ∈ O, p.2 w) → PlanT P n ops (fun e w => Q .normal (act n e) w) t O e w → j ∈ t.heads → j ∈ Region.ready .any ops l → t.depth = f + 1 →
     wpOp P ops Q j (fun a' w' => (∀ p ∈ O, waitsO (ops.getD j default) p.1 = false → p.2 w') ∧ wpAnyO P ops Q (O.filter fun p => !waitsO (ops.getD j default) p.1) f (l.setIfInBounds j true) a' w') (act n e) w
 | .line σ, l, _, hg, O, e, w, j, f, hO, h, hj, hr, hd => by
   match σ, hg, h, hj, hd with
   | [], hg, _, _, _ => simp [planG, offFirst] at hg
   | (i, true) :: σ, hg, _, _, _ => simp [planG, offFirst] at hg
   | (i, false) :: σ, hg, h, hj, hd =>
     obtain rfl : j = i := by simpa [Tr.heads] using hj
     simp only [planG, offFirst, if_true] at hg
     split at hg
     · rename_i l'' hp
       rw [beq_iff_eq] at hg
       have hfe : f = σ.length + 0 := by simp [Tr.depth] at hd; omega
       subst hfe
       exact eff_step hn hr hO (fun O e w hO h => plan_pre hn hs hQ (f := 0) (fun O e w _ hk => ⟨hg, hk⟩) σ O _ e w hp hO h) h
     · cases hg
 | .fork σ a b, l, hev, hg, O, e, w, j, f, hO, h, hj, hr, hd => by
   simp only [Tr.even, Bool.and_eq_true, beq_iff_eq] at hev
   obtain ⟨⟨hea, heb⟩, hab⟩ := hev
   match σ, hg, h, hj, hd with
   | [], hg, h, hj, hd =>
     simp only [planG, List.isEmpty_nil, Bool.and_self, if_true, Bool.and_eq_true] at hg
     have hd' : a.depth = f + 1 := by simpa [Tr.depth] using hd
     rcases List.mem_append.1 (show j ∈ a.heads ++ b.heads from hj) with h3 | h3
     · exact eff_sound hn hs hQ a l hea hg.1 O e w j f hO h.1 h3 hr hd'
     · exact eff_sound hn hs hQ b l heb hg.2 O e w j f hO h.2 h3 hr (by omega)
   | (i, true) :: σ, hg, _, _, _ => simp [planG, offFirst] at hg
   | (i, false) :: σ, hg, h, hj, hd =>
     obtain rfl : j = i := by simpa [Tr.heads] using hj
     simp only [planG, offFirst, if_true, List.isEmpty_cons, Bool.and_false, Bool.false_eq_true, if_false] at hg
     split at hg
     · rename_i l'' hp
       simp only [Bool.and_eq_true, Bool.not_eq_true'] at hg
       obtain ⟨⟨⟨hne, hall⟩, hga⟩, hgb⟩ := hg
       have hfe : f = σ.length + a.depth := by simp [Tr.depth] at hd; omega
       subst hfe
       exact eff_step hn hr hO (fun O e w hO h => plan_pre hn hs hQ (fun O e w hO hk => fork_step hab hne hall (fun O e w j f hO h1 h2 h3 h4 => eff_sound hn hs hQ a l'' hea hga O e w j f hO h1 h2 h3 h4) (fun O e w j f hO h1 h2 h3 h4 => eff_sound hn hs hQ b l'' heb hgb O e w j f hO h1 h2 h3 h4) (Tr.depth_pos a l'' hga) O e w hO hk) σ O _ e w hp hO h) h
     · cases hg
theorem plan_sound (hn : n ≤ 1000000) (hs : Region.noSelect ops = true) (hQ : ∀ c a w, ¬ Q (.panic c) a w) :
   ∀ (t : Tr) (l : Array Bool), t.even = true → planG ops false t l = true → ∀ (O : Pend) (e : Env) (w : World), (∀ p ∈ O, p.2 w) → PlanT P n ops (fun e w => Q .normal (act n e) w) t O e w → wpAnyO P ops Q O t.depth l (act n e) w
 | .line σ, l, _, hg, O, e, w, hO, h => by
   simp only [planG, offFirst, Bool.false_eq_true, if_false] at hg
   split at hg
   · rename_i l'' hp
     rw [beq_iff_eq] at hg
     exact plan_pre hn hs hQ (f := 0) (fun O e w _ hk => ⟨hg, hk⟩) σ O _ e w hp hO h
   · cases hg
 | .fork σ a b, l, hev, hg, O, e, w, hO, h => by
   simp only [Tr.even, Bool.and_eq_true, beq_iff_eq] at hev
   obtain ⟨⟨hea, heb⟩, hab⟩ := hev
   simp only [planG, offFirst, Bool.false_and, Bool.false_eq_true, if_false] at hg
   split at hg
   · rename_i l'' hp
     simp only [Bool.and_eq_true, Bool.not_eq_true'] at hg
     obtain ⟨⟨⟨hne, hall⟩, hga⟩, hgb⟩ := hg
     exact plan_pre hn hs hQ (fun O e w hO hk => fork_step hab hne hall (fun O e w j f hO h1 h2 h3 h4 => eff_sound hn hs hQ a l'' hea hga O e w j f hO h1 h2 h3 h4) (fun O e w j f hO h1 h2 h3 h4 => eff_sound hn hs hQ b l'' heb hgb O e w j f hO h1 h2 h3 h4) (Tr.depth_pos a l'' hga) O e w hO hk) σ O _ e w hp hO h
   · cases hg
theorem plan_text (hn : n ≤ 1000000) : ∀ (σ : List (Nat × Bool)) (O : Pend) (e : Env) (w : World), (∀ p ∈ σ, (ops[p.1]?).isSome = true) →
     Plan P n (fun _ e w => Q .normal (act n e) w) (items ops σ) O e w → wpOps P ops Q (σ.map (·.1)) (act n e) w
 | [], _, _, _, _, h => h
 | (i, b) :: σ, O, e, w, hsome, h => by
   obtain ⟨oi, hoi⟩ := Option.isSome_iff_exists.1 (hsome _ List.mem_cons_self)
   have hσ : ∀ p ∈ σ, (ops[p.1]?).isSome = true := fun p hp => hsome p (List.mem_cons_of_mem _ hp)
   have hit : items ops ((i, b) :: σ) = ⟨i, b, ops.getD i default, gslot ops (ops.getD i default)⟩ :: items ops σ := rfl
   rw [hit, ops_getD hoi] at h
   unfold Plan at h
   rw [gslot_spec e hn] at h
   simp only [List.map_cons, wpOps]
   rw [show ops[i]? = some oi from hoi]
   by_cases hw : Region.wanted oi (yielded ops (act n e).tmps) = true
   · rw [if_pos hw] at h
     simp only [hw, if_true]
     refine .inl ?_
     cases b with
     | true =>
       simp only [if_true] at h
       obtain ⟨v, ⟨hrun, hrest⟩ | ⟨S, hS, hrun, hrest⟩⟩ := h
       · unfold Oper.wp
         rw [act_eval, hrun w]
         simp only [Oper.upon]
         rw [act_put]
         exact plan_text hn σ _ _ _ hσ hrest
       · unfold Oper.wp
         rw [act_eval, hrun w hS]
         simp only [Oper.upon]
         rw [act_put]
         exact plan_text hn σ _ _ _ hσ hrest
     | false =>
       simp only [Bool.false_eq_true, if_false] at h
       exact upon_wp (fun v w' hk => by
         rcases hk with ⟨_, hrest⟩ | ⟨_, hrest⟩ | ⟨_, hrest⟩
         · exact plan_text hn σ _ _ _ hσ hrest
         · exact plan_text hn σ _ _ _ hσ hrest
         · exact plan_text hn σ _ _ _ hσ hrest) h
   · rw [if_neg hw] at h
     simp only [hw, Bool.false_eq_true, if_false]
     rw [act_put]
     exact plan_text hn σ _ _ _ hσ h
end plans
def planTextOk (ops : Array Oper) (n : Nat) (σ : List (Nat × Bool)) : Bool :=
 Nat.ble n 1000000 && (σ.map (·.1) == List.range ops.size)
section regions
variable {P : Program} {n : Nat} {R : Exit → Env → World → Prop} {e : Env} {w : World}
theorem W.regionF {id : Nat} {ops : Array Oper} (hm : P.follows .mixedOrders = true) (t : Tr) (hB : planTok ops n t = true)
   (h : PlanT P n ops (fun e w => R .normal e w) t [] e w.drew) : W P n (.region id ops true) R e w := by
 simp only [planTok, Bool.and_eq_true, beq_iff_eq] at hB
 obtain ⟨⟨⟨⟨hs, hev⟩, hl⟩, hn⟩, hp⟩ := hB
 refine wp_region_any hm (anyO_any _ [] _ _ _ ?_)
 rw [← hl]
 rw [← hl] at hp
 refine plan_sound (by simpa using hn) hs (fun c a w hq => hq) t _ hev hp [] e _ (fun p hp => by cases hp) ?_
 have : ({ w with drawn := w.drawn + 1 } : World) = w.drew := rfl
 rw [this]
 revert h
 generalize w.drew = w1
 intro h
 exact PlanT.mono (fun e w hr => ⟨e, rfl, hr⟩) t [] e w1 h
theorem W.regionD {id : Nat} {ops : Array Oper} (hm : P.follows .mixedOrders = true) (σ : List (Nat × Bool)) (hB : planTok ops n (.line σ) = true)
   (h : Plan P n (fun _ e w => R .normal e w) (items ops σ) [] e w.drew) : W P n (.region id ops true) R e w := W.regionF hm (.line σ) hB h
theorem W.regionT {id : Nat} {ops : Array Oper} (σ : List (Nat × Bool)) (hB : planTextOk ops n σ = true)
   (h : Plan P n (fun _ e w => R .normal e w) (items ops σ) [] e w) : W P n (.region id ops false) R e w := by
 simp only [planTextOk, Bool.and_eq_true, beq_iff_eq] at hB
 obtain ⟨hn, hl⟩ := hB
 refine wp_region ?_
 rw [← hl]
 refine plan_text (by simpa using hn) σ [] e w (fun p hp => ?_) (Plan.mono (fun _ e w hr => ⟨e, rfl, hr⟩) _ _ _ _ h)
 have : p.1 ∈ List.range ops.size := hl ▸ List.mem_map_of_mem hp
 have := List.mem_range.1 this
 simp [this]
end regions
end Go.LW
namespace Go.LW
set_option linter.unusedSimpArgs false
set_option linter.unusedVariables false
set_option linter.unusedSectionVars false
open Go Go.RowKit
@[reducible] def VN (m : Nat) : Value := .int .i64 (m : Int)
@[reducible] def VU (k : IntKind) {n : Nat} (X : BitVec n) : Value := .int k (X.toNat : Int)
inductive UK : IntKind → Nat → Prop
 | u8 : UK .u8 8
 | u16 : UK .u16 16
 | u32 : UK .u32 32
 | u64 : UK .u64 64
theorem UK.wrap {k : IntKind} {n : Nat} (h : UK k n) (x : Int) : k.wrap x = x % (2 ^ n : Nat) := by
 cases h <;> simp [IntKind.wrap, IntKind.signed, IntKind.bits]
theorem UK.bits {k : IntKind} {n : Nat} (h : UK k n) : k.bits = n := by cases h <;> rfl
theorem UK.max {k : IntKind} {n : Nat} (h : UK k n) : k.max = 2 ^ n - 1 := by cases h <;> rfl
theorem wrap_i64_in (n : Int) (h : -9223372036854775808 ≤ n ∧ n ≤ 9223372036854775807) : IntKind.i64.wrap n = n := IntWalk.i64_in n h
theorem run_v {P : Program} {s : Sem Value} {w w' : World} {v : Value} (h : s.run P w = .ok v w') : (do pure (Next.value (← s)) : Sem Next).run P w = .ok (.value v) w' := by
 rw [Sem.run_bind, h]; rfl
theorem run_u {P : Program} {s : Sem Unit} {w w' : World} (h : s.run P w = .ok () w') : (do s; pure Next.skip : Sem Next).run P w = .ok .skip w' := by
 rw [Sem.run_bind, h]; rfl
theorem run_bin {P : Program} {op : BinOp} {ρ : Operand → Value} {t yt ty : TypeId} {x y : Operand} {d : Option Tmp} {pos : String} {aft : Array Edge} {gd : Option (Nat × Bool)} {k : IntKind} {a b : Int} {v : Value} {w : World}
   (hx : ρ x = .int k a) (hy : ρ y = .int k b) (h : (binOp op t (.int k a) (.int k b)).run P w = .ok v w) : (execOp ρ ⟨d, .binOp op t x y yt, ty, pos, aft, gd⟩).run P w = .ok (.value v) w := by
 refine run_v ?_
 rw [hx, hy]
 have hq : (eqGuard op t x y (.int k a) (.int k b)).run P w = .ok () w := by
   unfold eqGuard; cases op <;> rfl
 rw [Sem.run_bind, hq]
 exact h
section step
variable {P : Program} {n : Nat} {K : Pend → Env → World → Prop} {l : List It} {O : Pend} {e : Env} {w : World} {i ty : Nat} {d : Tmp} {pos : String} {aft : Array Edge} {gd g : Option (Nat × Bool)}
theorem Plan.val {op : Op} {v : Value} (hg : wantedE n e g = true) (hv : ∀ w, (execOp (ev n e) ⟨some d, op, ty, pos, aft, gd⟩).run P w = .ok (.value v) w)
   (h : Plan P n K l O (upd e d v) w) : Plan P n K (⟨i, true, ⟨some d, op, ty, pos, aft, gd⟩, g⟩ :: l) O e w := by
 unfold Plan
 rw [if_pos hg]
 exact ⟨v, .inl ⟨hv, h⟩⟩
theorem Plan.passed {st : Bool} {op : Op} (hg : wantedE n e g = false) (h : Plan P n K l O (upd e d undef) w) : Plan P n K (⟨i, st, ⟨some d, op, ty, pos, aft, gd⟩, g⟩ :: l) O e w := by
 unfold Plan
 rw [if_neg (by rw [hg]; exact Bool.false_ne_true)]
 exact h
theorem Plan.nil (h : K O e w) : Plan P n K [] O e w := h
theorem Plan.move {x : Operand} {v : Value} (hg : wantedE n e g = true) (hx : ev n e x = v) (h : Plan P n K l O (upd e d v) w) : Plan P n K (⟨i, true, ⟨some d, .move x, ty, pos, aft, gd⟩, g⟩ :: l) O e w :=
 Plan.val hg (fun w => by simp [execOp, hx, pure]) h
theorem Plan.assign {x : Operand} {v : Value} (hg : wantedE n e g = true) (hx : ev n e x = v) (h : Plan P n K l O (upd e d v) w) : Plan P n K (⟨i, true, ⟨some d, .assign x, ty, pos, aft, gd⟩, g⟩ :: l) O e w :=
 Plan.val hg (fun w => by simp [execOp, hx, pure]) h
theorem Plan.move_int {x : Operand} {k : IntKind} {a : Int} (hg : wantedE n e g = true) (hx : ev n e x = .int k a) (h : Plan P n K l O (upd e d (.int k a)) w) : Plan P n K (⟨i, true, ⟨some d, .move x, ty, pos, aft, gd⟩, g⟩ :: l) O e w := Plan.move hg hx h
theorem Plan.assign_int {x : Operand} {k : IntKind} {a : Int} (hg : wantedE n e g = true) (hx : ev n e x = .int k a) (h : Plan P n K l O (upd e d (.int k a)) w) : Plan P n K (⟨i, true, ⟨some d, .assign x, ty, pos, aft, gd⟩, g⟩ :: l) O e w := Plan.assign hg hx h
theorem Plan.move_bool {x : Operand} {b : Bool} (hg : wantedE n e g = true) (hx : ev n e x = .bool b) (h : Plan P n K l O (upd e d (.bool b)) w) : Plan P n K (⟨i, true, ⟨some d, .move x, ty, pos, aft, gd⟩, g⟩ :: l) O e w := Plan.move hg hx h
theorem Plan.assign_bool {x : Operand} {b : Bool} (hg : wantedE n e g = true) (hx : ev n e x = .bool b) (h : Plan P n K l O (upd e d (.bool b)) w) : Plan P n K (⟨i, true, ⟨some d, .assign x, ty, pos, aft, gd⟩, g⟩ :: l) O e w := Plan.assign hg hx h
theorem Plan.move_ptr {x : Operand} {p : Option Addr} (hg : wantedE n e g = true) (hx : ev n e x = .pointer p) (h : Plan P n K l O (upd e d (.pointer p)) w) : Plan P n K (⟨i, true, ⟨some d, .move x, ty, pos, aft, gd⟩, g⟩ :: l) O e w := Plan.move hg hx h
theorem Plan.assign_ptr {x : Operand} {p : Option Addr} (hg : wantedE n e g = true) (hx : ev n e x = .pointer p) (h : Plan P n K l O (upd e d (.pointer p)) w) : Plan P n K (⟨i, true, ⟨some d, .assign x, ty, pos, aft, gd⟩, g⟩ :: l) O e w := Plan.assign hg hx h
theorem Plan.move_slice {x : Operand} {p : Option Addr} {a c : Nat} (hg : wantedE n e g = true) (hx : ev n e x = .slice p a c) (h : Plan P n K l O (upd e d (.slice p a c)) w) : Plan P n K (⟨i, true, ⟨some d, .move x, ty, pos, aft, gd⟩, g⟩ :: l) O e w := Plan.move hg hx h
theorem Plan.assign_slice {x : Operand} {p : Option Addr} {a c : Nat} (hg : wantedE n e g = true) (hx : ev n e x = .slice p a c) (h : Plan P n K l O (upd e d (.slice p a c)) w) : Plan P n K (⟨i, true, ⟨some d, .assign x, ty, pos, aft, gd⟩, g⟩ :: l) O e w := Plan.assign hg hx h
theorem Plan.move_tuple {x : Operand} {s : Array Value} (hg : wantedE n e g = true) (hx : ev n e x = .tuple s) (h : Plan P n K l O (upd e d (.tuple s)) w) : Plan P n K (⟨i, true, ⟨some d, .move x, ty, pos, aft, gd⟩, g⟩ :: l) O e w := Plan.move hg hx h
theorem Plan.arith {op : BinOp} {t yt : TypeId} {x y : Operand} {k : IntKind} {a b r : Int} (hg : wantedE n e g = true) (hx : ev n e x = .int k a) (hy : ev n e y = .int k b)
   (hr : (match op with | .add => k.wrap (a + b) | .sub => k.wrap (a - b) | .mul => k.wrap (a * b) | _ => r + 1) = r)
   (h : Plan P n K l O (upd e d (.int k r)) w) : Plan P n K (⟨i, true, ⟨some d, .binOp op t x y yt, ty, pos, aft, gd⟩, g⟩ :: l) O e w :=
 Plan.val hg (fun w => by
   cases op <;> first | (exfalso; simp only at hr; omega) | (simp only at hr; subst hr; exact run_bin hx hy (by simp [binOp, Op.intArith, pure, Sem.run]))) h
theorem Plan.addN {t yt : TypeId} {x y : Operand} {a b : Nat} (hg : wantedE n e g = true) (hx : ev n e x = VN a) (hy : ev n e y = VN b) (hb : a + b < 9223372036854775808)
   (h : Plan P n K l O (upd e d (VN (a + b))) w) : Plan P n K (⟨i, true, ⟨some d, .binOp .add t x y yt, ty, pos, aft, gd⟩, g⟩ :: l) O e w :=
 Plan.arith hg hx hy (by show _ = ((a + b : Nat) : Int); simp only; rw [wrap_i64_in _ (by omega)]; omega) h
theorem Plan.addI {t yt : TypeId} {x y : Operand} {a b : Int} (hg : wantedE n e g = true) (hx : ev n e x = .int .i64 a) (hy : ev n e y = .int .i64 b) (hb : -9223372036854775808 ≤ a + b ∧ a + b ≤ 9223372036854775807)
   (h : Plan P n K l O (upd e d (.int .i64 (a + b))) w) : Plan P n K (⟨i, true, ⟨some d, .binOp .add t x y yt, ty, pos, aft, gd⟩, g⟩ :: l) O e w :=
 Plan.arith hg hx hy (wrap_i64_in _ hb) h
theorem Plan.subI {t yt : TypeId} {x y : Operand} {a b : Int} (hg : wantedE n e g = true) (hx : ev n e x = .int .i64 a) (hy : ev n e y = .int .i64 b) (hb : -9223372036854775808 ≤ a - b ∧ a - b ≤ 9223372036854775807)
   (h : Plan P n K l O (upd e d (.int .i64 (a - b))) w) : Plan P n K (⟨i, true, ⟨some d, .binOp .sub t x y yt, ty, pos, aft, gd⟩, g⟩ :: l) O e w :=
 Plan.arith hg hx hy (wrap_i64_in _ hb) h
def icmp (op : BinOp) (a b : Int) : Bool := match op with
 | .eql => a == b | .neq => a != b | .lss => decide (a < b) | .leq => decide (a ≤ b) | .gtr => decide (a > b) | _ => decide (a ≥ b)
def isCmp : BinOp → Bool
 | .eql | .neq | .lss | .leq | .gtr | .geq => true
 | _ => false
theorem Plan.cmp {op : BinOp} {t yt : TypeId} {x y : Operand} {k : IntKind} {a b : Int} (hop : isCmp op = true) (hg : wantedE n e g = true) (hx : ev n e x = .int k a) (hy : ev n e y = .int k b)
   (h : Plan P n K l O (upd e d (.bool (icmp op a b))) w) : Plan P n K (⟨i, true, ⟨some d, .binOp op t x y yt, ty, pos, aft, gd⟩, g⟩ :: l) O e w :=
 Plan.val hg (fun w => by
   refine run_bin hx hy ?_
   cases op <;> first | exact absurd hop (by decide) | (simp only [binOp, ne_eq, not_true_eq_false, if_false, Op.intCmp, icmp]; rfl)) h
theorem Plan.not {t : TypeId} {x : Operand} {b : Bool} (hg : wantedE n e g = true) (hx : ev n e x = .bool b)
   (h : Plan P n K l O (upd e d (.bool !b)) w) : Plan P n K (⟨i, true, ⟨some d, .unOp .not t x, ty, pos, aft, gd⟩, g⟩ :: l) O e w :=
 Plan.val hg (fun w => run_v (by rw [hx]; rfl)) h
theorem Plan.notT {t : TypeId} {x : Operand} (hg : wantedE n e g = true) (hx : ev n e x = .bool true)
   (h : Plan P n K l O (upd e d (.bool false)) w) : Plan P n K (⟨i, true, ⟨some d, .unOp .not t x, ty, pos, aft, gd⟩, g⟩ :: l) O e w := Plan.not hg hx h
theorem Plan.notF {t : TypeId} {x : Operand} (hg : wantedE n e g = true) (hx : ev n e x = .bool false)
   (h : Plan P n K l O (upd e d (.bool true)) w) : Plan P n K (⟨i, true, ⟨some d, .unOp .not t x, ty, pos, aft, gd⟩, g⟩ :: l) O e w := Plan.not hg hx h
theorem Plan.pickT {c a b : Operand} {v : Value} (hg : wantedE n e g = true) (hc : ev n e c = .bool true) (ha : ev n e a = v)
   (h : Plan P n K l O (upd e d v) w) : Plan P n K (⟨i, true, ⟨some d, .pick c a b, ty, pos, aft, gd⟩, g⟩ :: l) O e w :=
 Plan.val hg (fun w => by simp [execOp, hc, ha, asBool, pure]) h
theorem Plan.pickF {c a b : Operand} {v : Value} (hg : wantedE n e g = true) (hc : ev n e c = .bool false) (hb : ev n e b = v)
   (h : Plan P n K l O (upd e d v) w) : Plan P n K (⟨i, true, ⟨some d, .pick c a b, ty, pos, aft, gd⟩, g⟩ :: l) O e w :=
 Plan.val hg (fun w => by simp [execOp, hc, hb, asBool, pure]) h
theorem Plan.pickTb {c a b : Operand} {v : Bool} (hg : wantedE n e g = true) (hc : ev n e c = .bool true) (ha : ev n e a = .bool v)
   (h : Plan P n K l O (upd e d (.bool v)) w) : Plan P n K (⟨i, true, ⟨some d, .pick c a b, ty, pos, aft, gd⟩, g⟩ :: l) O e w := Plan.pickT hg hc ha h
theorem Plan.pickFb {c a b : Operand} {v : Bool} (hg : wantedE n e g = true) (hc : ev n e c = .bool false) (hb : ev n e b = .bool v)
   (h : Plan P n K l O (upd e d (.bool v)) w) : Plan P n K (⟨i, true, ⟨some d, .pick c a b, ty, pos, aft, gd⟩, g⟩ :: l) O e w := Plan.pickF hg hc hb h
theorem run_conv {P : Program} {s t : TypeId} {k k' : IntKind} {a : Int} {w : World} (ht : P.underlying t = some (.int k')) (hs : (P.underlying s).isSome = true) :
   (convert s t (.int k a)).run P w = .ok (.int k' (k'.wrap a)) w := by
 obtain ⟨sd, hs⟩ := Option.isSome_iff_exists.1 hs
 unfold convert
 simp only [Sem.run_bind, run_underlying hs, run_underlying ht, Result.andThen]
 cases sd <;> rfl
theorem Plan.conv {s t : TypeId} {x : Operand} {k k' : IntKind} {a b : Int} (ht : P.underlying t = some (.int k')) (hs : (P.underlying s).isSome = true) (hg : wantedE n e g = true) (hx : ev n e x = .int k a) (hb : k'.wrap a = b)
   (h : Plan P n K l O (upd e d (.int k' b)) w) : Plan P n K (⟨i, true, ⟨some d, .convert s t x, ty, pos, aft, gd⟩, g⟩ :: l) O e w :=
 Plan.val hg (fun w => run_v (by rw [hx, run_conv ht hs, hb])) h
theorem Plan.convIU {s t : TypeId} {x : Operand} {k k' : IntKind} {m' : Nat} {a : Int} (hk' : UK k' m') (ht : P.underlying t = some (.int k')) (hs : (P.underlying s).isSome = true) (hg : wantedE n e g = true) (hx : ev n e x = .int k a)
   (h : Plan P n K l O (upd e d (VU k' (BitVec.ofInt m' a))) w) : Plan P n K (⟨i, true, ⟨some d, .convert s t x, ty, pos, aft, gd⟩, g⟩ :: l) O e w :=
 Plan.conv ht hs hg hx (by rw [hk'.wrap, BitVec.toNat_ofInt, Int.toNat_of_nonneg (Int.emod_nonneg _ (by have := Nat.two_pow_pos m'; omega))]) h
end step
end Go.LW
namespace Go.LW
set_option linter.unusedSimpArgs false
set_option linter.unusedVariables false
set_option linter.unusedSectionVars false
open Go Go.RowKit
structure Rg where
 p : Option Nat
 off : Nat
 n : Nat
 f : Nat → Value
 rw : Bool
def Rg.at (r : Rg) (w : World) : Prop := ∀ j, j < r.n → ∃ b, r.p = some b ∧ w.cell? ⟨b, r.off + j, none⟩ = some (r.f j)
def Rg.free (B : Nat) (r : Rg) (w : World) : Prop := r.rw = true → ∀ j, j < r.n → ∃ b, r.p = some b ∧ B ≤ b ∧ w.frozen? ⟨b, r.off + j, none⟩ = false
def Rg.apart (r s : Rg) : Prop := r.rw = true ∨ s.rw = true → r.p ≠ s.p ∨ r.off + r.n ≤ s.off ∨ s.off + s.n ≤ r.off ∨ r.n = 0 ∨ s.n = 0
theorem Rg.apart.symm {r s : Rg} (h : r.apart s) : s.apart r := fun hw => by
 rcases h hw.symm with h | h | h | h | h
 · exact .inl (Ne.symm h)
 · exact .inr (.inr (.inl h))
 · exact .inr (.inl h)
 · exact .inr (.inr (.inr (.inr h)))
 · exact .inr (.inr (.inr (.inl h)))
def keptO : Obj → Bool
 | .map _ _ => true
 | .mapIter _ _ _ _ => true
 | _ => false
structure MR where
 m : Nat
 ok : Obj → Prop
def MR.at (r : MR) (w : World) : Prop := ∃ o, keptO o = true ∧ w.heap[r.m]? = some o ∧ r.ok o
structure Base where
 w : World
 M : List MR
def Base.on (b : Base) (N : List MR) : Base := ⟨b.w, N ++ b.M⟩
structure Blw (B : Nat) (w w' : World) : Prop extends Below B w w' where
 drawn : w.drawn ≤ w'.drawn
theorem Blw.refl (B : Nat) (w : World) : Blw B w w := ⟨Below.refl B w, Nat.le_refl _⟩
theorem Blw.trans {B : Nat} {a b c : World} (h : Blw B a b) (k : Blw B b c) : Blw B a c := ⟨h.toBelow.trans k.toBelow, Nat.le_trans h.drawn k.drawn⟩
theorem Blw.mono {B B' : Nat} {w w' : World} (h : Blw B w w') (hB : B' ≤ B) : Blw B' w w' := ⟨h.toBelow.mono hB, h.drawn⟩
theorem Blw.drew {B : Nat} {a w : World} (h : Blw B a w) : Blw B a w.drew := ⟨h.toBelow.drew, Nat.le_succ_of_le h.drawn⟩
theorem Blw.alloc {B : Nat} {a w : World} (h : Blw B a w) (hB : B ≤ w.heap.size) (o : Obj) : Blw B a (w.alloc o) := ⟨h.toBelow.alloc hB o, h.drawn⟩
theorem Blw.setCell {B : Nat} {a w : World} (h : Blw B a w) {p : Addr} (hp : B ≤ p.block) (u : Value) : Blw B a (w.setCell p u) := ⟨h.toBelow.setCell hp u, h.drawn⟩
structure Bel (B : Nat) (a : Base) (w : World) : Prop extends Blw B a.w w where
 maps : ∀ r ∈ a.M, B ≤ r.m ∧ r.at w
 mdis : a.M.Pairwise fun r s => r.m ≠ s.m
theorem MR.at_block {r : MR} {w w' : World} (h : r.at w) (hb : w'.heap[r.m]? = w.heap[r.m]?) : r.at w' := by
 obtain ⟨o, h1, h2, h3⟩ := h
 exact ⟨o, h1, by rw [hb]; exact h2, h3⟩
theorem MR.at_lt {r : MR} {w : World} (h : r.at w) : r.m < w.heap.size := by
 obtain ⟨o, _, h2, _⟩ := h
 exact (Array.getElem?_eq_some_iff.1 h2).1
theorem Bel.refl (B : Nat) (w : World) : Bel B ⟨w, []⟩ w := ⟨Blw.refl B w, fun _ h => (by cases h), .nil⟩
theorem Bel.drew {B : Nat} {a : Base} {w : World} (h : Bel B a w) : Bel B a w.drew := ⟨h.toBlw.drew, h.maps, h.mdis⟩
theorem Bel.later {B : Nat} {a : Base} {w w' : World} (h : Bel B a w) (hb : Blw w.heap.size w w') (hB : B ≤ w.heap.size) : Bel B a w' :=
 ⟨h.toBlw.trans (hb.mono hB), fun r hr => ⟨(h.maps r hr).1, MR.at_block (h.maps r hr).2 (hb.block r.m (MR.at_lt (h.maps r hr).2))⟩, h.mdis⟩
theorem MR.at_setCell {r : MR} {w : World} (h : r.at w) (p : Addr) (u : Value) : r.at (w.setCell p u) := by
 obtain ⟨o, ho, h2, h3⟩ := h
 refine ⟨o, ho, ?_, h3⟩
 simp only [World.setCell, Array.getElem?_modify]
 by_cases hk : p.block = r.m
 · rw [if_pos hk, h2]
   cases o <;> first | rfl | cases ho
 · rw [if_neg hk]; exact h2
theorem Bel.setCell {B : Nat} {a : Base} {w : World} (h : Bel B a w) {p : Addr} (hp : B ≤ p.block) (u : Value) : Bel B a (w.setCell p u) :=
 ⟨h.toBlw.setCell hp u, fun r hr => ⟨(h.maps r hr).1, MR.at_setCell (h.maps r hr).2 p u⟩, h.mdis⟩
structure St (B : Nat) (w0 : Base) (L : List Rg) (w : World) : Prop where
 below : Bel B w0 w
 base : B ≤ w.heap.size
 at_ : ∀ r ∈ L, r.at w
 free : ∀ r ∈ L, r.free B w
 apart : L.Pairwise Rg.apart
theorem Rg.at_block {r : Rg} {w w' : World} (h : r.at w) (hb : ∀ b, r.p = some b → r.n ≠ 0 → w'.heap[b]? = w.heap[b]?) : r.at w' := fun j hj => by
 obtain ⟨b, hp, hc⟩ := h j hj
 exact ⟨b, hp, by rw [World.cell?_of_block (w := w) (hb b hp (by omega))]; exact hc⟩
theorem Rg.free_block {B : Nat} {r : Rg} {w w' : World} (h : r.free B w) (hb : ∀ b, r.p = some b → r.n ≠ 0 → w'.heap[b]? = w.heap[b]?) : r.free B w' := fun hw j hj => by
 obtain ⟨b, hp, hB, hc⟩ := h hw j hj
 exact ⟨b, hp, hB, by rw [World.frozen?_of_block (w := w) (hb b hp (by omega))]; exact hc⟩
theorem Rg.at_lt {r : Rg} {w : World} (h : r.at w) {b : Nat} (hp : r.p = some b) (hn : r.n ≠ 0) : b < w.heap.size := by
 obtain ⟨b', hp', hc⟩ := h 0 (by omega)
 obtain rfl : b = b' := by rw [hp] at hp'; exact Option.some.inj hp'
 exact block_lt_of_cell hc
section st
variable {B : Nat} {w0 : Base} {w : World} {L : List Rg}
theorem St.drew (h : St B w0 L w) : St B w0 L w.drew := ⟨h.below.drew, h.base, h.at_, h.free, h.apart⟩
theorem St.later (h : St B w0 L w) {w' : World} (hb : Blw w.heap.size w w') : St B w0 L w' := by
 refine ⟨h.below.later hb h.base, Nat.le_trans h.base hb.size, fun r hr => ?_, fun r hr => ?_, h.apart⟩
 · exact Rg.at_block (h.at_ r hr) fun b hp hn => hb.block b (Rg.at_lt (h.at_ r hr) hp hn)
 · exact Rg.free_block (h.free r hr) fun b hp hn => hb.block b (Rg.at_lt (h.at_ r hr) hp hn)
theorem St.sub (h : St B w0 L w) {L' : List Rg} (hs : L'.Sublist L) : St B w0 L' w :=
 ⟨h.below, h.base, fun r hr => h.at_ r (hs.subset hr), fun r hr => h.free r (hs.subset hr), h.apart.sublist hs⟩
theorem St.cons (h : St B w0 L w) {r : Rg} (ha : r.at w) (hf : r.free B w) (hap : ∀ s ∈ L, r.apart s) : St B w0 (r :: L) w :=
 ⟨h.below, h.base, fun s hs => by rcases List.mem_cons.1 hs with rfl | hs; exact ha; exact h.at_ s hs,
  fun s hs => by rcases List.mem_cons.1 hs with rfl | hs; exact hf; exact h.free s hs, List.pairwise_cons.2 ⟨hap, h.apart⟩⟩
theorem St.ro (h : St B w0 L w) {p : Option Nat} {off n : Nat} {f : Nat → Value} (ha : (Rg.mk p off n f false).at w) (hap : ∀ s ∈ L, s.rw = true → (Rg.mk p off n f false).apart s) : St B w0 (⟨p, off, n, f, false⟩ :: L) w :=
 h.cons ha (fun hw => by cases hw) fun s hs hw => by
   rcases hw with hw | hw
   · cases hw
   · exact hap s hs hw (.inr hw)
theorem St.mem (h : St B w0 L w) {i : Nat} {r : Rg} (hL : L[i]? = some r) : r.at w := h.at_ r (List.mem_of_getElem? hL)
theorem St.init (B : Nat) (w : World) (h : B ≤ w.heap.size) : St B ⟨w, []⟩ [] w := ⟨Bel.refl _ _, h, fun r hr => (by cases hr), fun r hr => (by cases hr), List.Pairwise.nil⟩
def catL (ps : List (Nat × (Nat → Value))) : List Value := ps.flatMap fun q => (List.range q.1).map q.2
def AG (ps : List (Nat × (Nat → Value))) : Value := .agg (catL ps).toArray
def rngs (b : Nat) : Nat → List (Nat × (Nat → Value)) → List Rg
 | _, [] => []
 | o, q :: ps => ⟨some b, o, q.1, q.2, true⟩ :: rngs b (o + q.1) ps
theorem catL_cons (q : Nat × (Nat → Value)) (ps : List (Nat × (Nat → Value))) : catL (q :: ps) = (List.range q.1).map q.2 ++ catL ps := rfl
theorem rngs_at (b : Nat) (w : World) : ∀ (ps : List (Nat × (Nat → Value))) (o : Nat), (∀ j v, (catL ps)[j]? = some v → w.cell? ⟨b, o + j, none⟩ = some v) → ∀ r ∈ rngs b o ps, r.at w
 | [], _, _, r, hr => by cases hr
 | q :: ps, o, h, r, hr => by
   rcases List.mem_cons.1 hr with rfl | hr
   · intro j hj
     refine ⟨b, rfl, h j (q.2 j) ?_⟩
     have hj' : j < q.1 := hj
     rw [catL_cons, List.getElem?_append_left (by simpa using hj')]
     simp [hj']
   · refine rngs_at b w ps (o + q.1) (fun j v hv => ?_) r hr
     rw [Nat.add_assoc]
     refine h (q.1 + j) v ?_
     rw [catL_cons, List.getElem?_append_right (by simp)]
     simpa using hv
theorem rngs_p (b : Nat) : ∀ (ps : List (Nat × (Nat → Value))) (o : Nat), ∀ r ∈ rngs b o ps, r.p = some b ∧ o ≤ r.off
 | [], _, r, hr => by cases hr
 | q :: ps, o, r, hr => by
   rcases List.mem_cons.1 hr with rfl | hr
   · exact ⟨rfl, Nat.le_refl _⟩
   · have := rngs_p b ps (o + q.1) r hr
     exact ⟨this.1, by omega⟩
theorem rngs_apart (b : Nat) : ∀ (ps : List (Nat × (Nat → Value))) (o : Nat), (rngs b o ps).Pairwise Rg.apart
 | [], _ => .nil
 | q :: ps, o => by
   refine List.pairwise_cons.2 ⟨fun s hs _ => ?_, rngs_apart b ps _⟩
   have := (rngs_p b ps (o + q.1) s hs).2
   exact .inr (.inl this)
theorem St.alloc (h : St B w0 L w) (ps : List (Nat × (Nat → Value))) (T : TypeId) : St B w0 (rngs w.heap.size 0 ps ++ L) (w.alloc (.cells (catL ps).toArray T)) := by
 have hb : Blw w.heap.size w (w.alloc (.cells (catL ps).toArray T)) := (Blw.refl _ _).alloc (Nat.le_refl _) _
 have h' := h.later hb
 have hnew : (w.alloc (.cells (catL ps).toArray T)).heap[w.heap.size]? = some (.cells (catL ps).toArray T) := heap_alloc_new _ _
 have hcell : ∀ j v, (catL ps)[j]? = some v → (w.alloc (.cells (catL ps).toArray T)).cell? ⟨w.heap.size, 0 + j, none⟩ = some v := fun j v hv => by
   simp only [World.cell?, hnew]
   simpa using hv
 refine ⟨h'.below, h'.base, fun r hr => ?_, fun r hr => ?_, ?_⟩
 · rcases List.mem_append.1 hr with hr | hr
   · exact rngs_at _ _ ps 0 hcell r hr
   · exact h'.at_ r hr
 · rcases List.mem_append.1 hr with hr | hr
   · intro _ j hj
     refine ⟨w.heap.size, (rngs_p _ ps 0 r hr).1, h.base, ?_⟩
     unfold World.frozen?
     rw [hnew]
     simp
   · exact h'.free r hr
 · refine List.pairwise_append.2 ⟨rngs_apart _ ps 0, h.apart, fun r hr s hs _ => ?_⟩
   by_cases hn : s.n = 0
   · exact .inr (.inr (.inr (.inr hn)))
   · refine .inl ?_
     rw [(rngs_p _ ps 0 r hr).1]
     intro he
     have := Rg.at_lt (h.at_ s hs) he.symm hn
     omega
theorem setCell_cell {w : World} {b o : Nat} {v u : Value} (h : w.cell? ⟨b, o, none⟩ = some u) (b' o' : Nat) : (w.setCell ⟨b, o, none⟩ v).cell? ⟨b', o', none⟩ = if b' = b ∧ o' = o then some v else w.cell? ⟨b', o', none⟩ := by
 by_cases hb : b' = b ∧ o' = o
 · obtain ⟨rfl, rfl⟩ := hb
   rw [if_pos ⟨rfl, rfl⟩]
   exact World.cell?_setCell_same w _ v h
 · rw [if_neg hb]
   exact World.cell?_setCell_other w _ _ v (fun e => hb (by injection e with e1 e2; exact ⟨e1.symm, e2.symm⟩))
theorem setCell_frozen (w : World) (a : Addr) (v : Value) (q : Addr) : (w.setCell a v).frozen? q = w.frozen? q := by
 simp only [World.setCell, World.frozen?, Array.getElem?_modify]
 by_cases h : a.block = q.block
 · rw [if_pos h]
   cases hq : w.heap[q.block]? with
   | none => rfl
   | some o => cases o <;> simp
 · rw [if_neg h]
theorem St.set (h : St B w0 L w) {i b off m j : Nat} {f : Nat → Value} {v : Value} (hL : L[i]? = some ⟨some b, off, m, f, true⟩) (hj : j < m) :
   St B w0 (L.set i ⟨some b, off, m, upd f j v, true⟩) (w.setCell ⟨b, off + j, none⟩ v) := by
 have hmem := List.mem_of_getElem? hL
 obtain ⟨b', hp, hc⟩ := h.at_ _ hmem j hj
 obtain rfl : b = b' := Option.some.inj hp
 obtain ⟨b', hp, hB, hfz⟩ := h.free _ hmem rfl j hj
 obtain rfl : b = b' := Option.some.inj hp
 have hc : w.cell? ⟨b, off + j, none⟩ = some (f j) := hc
 have hil : i < L.length := (List.getElem?_eq_some_iff.1 hL).1
 have hLi : L[i] = ⟨some b, off, m, f, true⟩ := (List.getElem?_eq_some_iff.1 hL).2
 refine ⟨h.below.setCell hB v, by simpa [World.setCell] using h.base, fun r hr => ?_, fun r hr => ?_, ?_⟩
 · obtain ⟨k, hk, hrk⟩ := List.getElem_of_mem hr
   rw [List.getElem_set] at hrk
   by_cases hik : i = k
   · rw [if_pos hik] at hrk
     subst hrk
     intro q hq
     refine ⟨b, rfl, ?_⟩
     rw [setCell_cell hc]
     by_cases hqj : q = j
     · subst hqj; simp [upd_same]
     · rw [if_neg (by rintro ⟨_, h2⟩; exact hqj (by simp only at h2; omega))]
       obtain ⟨b', hp, hcq⟩ := h.at_ _ hmem q hq
       obtain rfl : b = b' := Option.some.inj hp
       simp only [upd_ne _ _ _ _ hqj]
       exact hcq
   · rw [if_neg hik] at hrk
     have hk' : k < L.length := by simpa using hk
     have hap : (Rg.mk (some b) off m f true).apart r := by
       rw [← hLi, ← hrk]
       rcases Nat.lt_or_ge i k with hlt | hge
       · exact List.pairwise_iff_getElem.1 h.apart i k hil hk' hlt
       · exact (List.pairwise_iff_getElem.1 h.apart k i hk' hil (by omega)).symm
     intro q hq
     obtain ⟨b', hpr, hcq⟩ := h.at_ r (hrk ▸ List.getElem_mem hk') q hq
     refine ⟨b', hpr, ?_⟩
     rw [setCell_cell hc, if_neg ?_]
     · exact hcq
     · rintro ⟨rfl, h2⟩
       rcases hap (.inl rfl) with h3 | h3 | h3 | h3 | h3
       · exact h3 hpr.symm
       · simp only at h3; omega
       · simp only at h3; omega
       · simp only at h3; omega
       · omega
 · have hfr : ∀ q, (w.setCell ⟨b, off + j, none⟩ v).frozen? q = w.frozen? q := setCell_frozen w _ v
   intro hw q hq
   rcases List.mem_or_eq_of_mem_set hr with hr | rfl
   · obtain ⟨b', hp, hB', hz⟩ := h.free r hr hw q hq
     exact ⟨b', hp, hB', by rw [hfr]; exact hz⟩
   · obtain ⟨b', hp, hB', hz⟩ := h.free _ hmem rfl q hq
     exact ⟨b', hp, hB', by rw [hfr]; exact hz⟩
 · rw [List.pairwise_iff_getElem]
   intro x y hx hy hxy
   have hx' : x < L.length := by simpa using hx
   have hy' : y < L.length := by simpa using hy
   have h0 := List.pairwise_iff_getElem.1 h.apart x y hx' hy' hxy
   rw [List.getElem_set, List.getElem_set]
   by_cases hix : i = x
   · subst hix
     rw [if_pos rfl, if_neg (by omega)]
     rw [hLi] at h0
     exact h0
   · rw [if_neg hix]
     by_cases hiy : i = y
     · subst hiy
       rw [if_pos rfl]
       rw [hLi] at h0
       exact h0
     · rw [if_neg hiy]; exact h0
end st
end Go.LW
namespace Go.LW
set_option linter.unusedSimpArgs false
set_option linter.unusedVariables false
set_option linter.unusedSectionVars false
open Go Go.RowKit
inductive PartsIn (L : List Rg) (b : Nat) : Nat → List (Nat × (Nat → Value)) → Prop
 | nil {o : Nat} : PartsIn L b o []
 | cons {o n : Nat} {f : Nat → Value} {rw : Bool} {ps : List (Nat × (Nat → Value))} (i : Nat) (h : L[i]? = some ⟨some b, o, n, f, rw⟩) (t : PartsIn L b (o + n) ps) : PartsIn L b o ((n, f) :: ps)
theorem catL_length (ps : List (Nat × (Nat → Value))) : (catL ps).length = (ps.map (·.1)).sum := by
 induction ps with
 | nil => rfl
 | cons q ps ih => rw [catL_cons]; simp [ih]
theorem PartsIn.cells {L : List Rg} {b : Nat} {B : Nat} {w0 : Base} {w : World} (hst : St B w0 L w) {o : Nat} {ps : List (Nat × (Nat → Value))} (h : PartsIn L b o ps) :
   ∀ j v, (catL ps)[j]? = some v → w.cell? ⟨b, o + j, none⟩ = some v := by
 induction h with
 | nil => intro j v hv; simp [catL] at hv
 | @cons o n f rw ps i h t ih =>
   intro j v hv
   rw [catL_cons] at hv
   by_cases hj : j < n
   · rw [List.getElem?_append_left (by simpa using hj)] at hv
     obtain ⟨b', hp, hc⟩ := hst.mem h j hj
     obtain rfl : b = b' := Option.some.inj hp
     simp only [] at hc
     rw [hc]
     simpa [hj] using hv
   · rw [List.getElem?_append_right (by simpa using hj)] at hv
     have := ih (j - n) v (by simpa using hv)
     rw [show o + n + (j - n) = o + j by omega] at this
     exact this
inductive PIn : Pend → List Rg → Prop
 | nil {L : List Rg} : PIn [] L
 | cons {O : Pend} {L : List Rg} {k : Nat} {r : Rg} (i : Nat) (h : L[i]? = some r) (t : PIn O L) : PIn ((k, r.at) :: O) L
 | tru {O : Pend} {L : List Rg} {k : Nat} (t : PIn O L) : PIn ((k, fun _ => True) :: O) L
 | parts {O : Pend} {L : List Rg} {k b o : Nat} {ps : List (Nat × (Nat → Value))} (h : PartsIn L b o ps) (t : PIn O L) : PIn ((k, fun w => ∀ j v, (catL ps)[j]? = some v → w.cell? ⟨b, o + j, none⟩ = some v) :: O) L
theorem PIn.keep {O : Pend} {L : List Rg} (h : PIn O L) {B : Nat} {w0 : Base} {w w' : World} (hst : St B w0 L w') : ∀ p ∈ O, p.2 w → p.2 w' := by
 induction h with
 | nil => intro p hp; cases hp
 | cons i h t ih =>
   intro p hp hw
   rcases List.mem_cons.1 hp with rfl | hp
   · exact hst.mem h
   · exact ih hst p hp hw
 | tru t ih =>
   intro p hp hw
   rcases List.mem_cons.1 hp with rfl | hp
   · trivial
   · exact ih hst p hp hw
 | parts h t ih =>
   intro p hp hw
   rcases List.mem_cons.1 hp with rfl | hp
   · exact h.cells hst
   · exact ih hst p hp hw
def scalarT (P : Program) (t : TypeId) : Bool := match P.underlying t with
 | some (.struct _) => false
 | some (.array _ _) => false
 | some _ => true
 | none => false
def aggT (P : Program) (t : TypeId) (n : Nat) : Bool := (match P.underlying t with
 | some (.struct _) => true
 | some (.array _ _) => true
 | _ => false) && (match P.info? t with | some i => i.size == n | none => false)
def szT (P : Program) (t : TypeId) (n : Nat) : Bool := match P.info? t with | some i => i.size == n | none => false
def callB (P : Program) (f : FuncId) : Bool := match P.funcs[f]? with
 | some fn => !(fn.name == "runtime.NumGoroutine") && !fn.body.isNone
 | none => false
theorem run_loadAt_scalar {P : Program} {t : TypeId} {a : Addr} {v : Value} {w : World} (ht : scalarT P t = true) (hc : w.cell? a = some v) : (Instr.loadAt t (.pointer (some a))).run P w = .ok v w := by
 have hagg : (isAgg t).run P w = .ok false w := by
   unfold scalarT at ht
   unfold isAgg
   cases hu : P.underlying t with
   | none => rw [hu] at ht; cases ht
   | some d =>
     rw [Sem.run_bind, run_underlying hu w]
     rw [hu] at ht
     cases d <;> first | rfl | cases ht
 simp [Instr.loadAt, Instr.sureAddr, loadVar, Sem.run_bind, hagg, hc]
theorem aggT_spec {P : Program} {t : TypeId} {n : Nat} (h : aggT P t n = true) : ∃ d, P.underlying t = some d ∧ d.isRow = true ∧ (P.info? t).map (·.size) = some n := by
 unfold aggT at h
 simp only [Bool.and_eq_true] at h
 obtain ⟨h1, h2⟩ := h
 cases hu : P.underlying t with
 | none => rw [hu] at h1; cases h1
 | some d =>
   rw [hu] at h1
   refine ⟨d, rfl, (by cases d <;> first | rfl | cases h1), ?_⟩
   cases hi : P.info? t with
   | none => rw [hi] at h2; cases h2
   | some i =>
     rw [hi] at h2
     simp only [beq_iff_eq] at h2
     simp [h2]
theorem szT_spec {P : Program} {t : TypeId} {n : Nat} (h : szT P t n = true) (w : World) : (sizeOf t).run P w = .ok n w := by
 unfold szT at h
 cases hi : P.info? t with
 | none => rw [hi] at h; cases h
 | some i =>
   rw [hi] at h
   simp only [beq_iff_eq] at h
   simp [sizeOf, typeInfo, hi, h]
theorem St.like {B : Nat} {w0 : Base} {w : World} {L L' : List Rg} (h : St B w0 L w) (hl : L'.length = L.length)
   (hr : ∀ q (h1 : q < L.length) (h2 : q < L'.length), L'[q].p = L[q].p ∧ L'[q].off = L[q].off ∧ L'[q].n = L[q].n ∧ L'[q].rw = L[q].rw ∧ ∀ j, j < L[q].n → L'[q].f j = L[q].f j) : St B w0 L' w := by
 refine ⟨h.below, h.base, fun r hm => ?_, fun r hm => ?_, ?_⟩
 · obtain ⟨q, hq, rfl⟩ := List.getElem_of_mem hm
   obtain ⟨h1, h2, h3, h4, h5⟩ := hr q (by omega) hq
   intro j hj
   obtain ⟨b, hp, hc⟩ := h.at_ L[q] (List.getElem_mem (by omega)) j (by omega)
   exact ⟨b, by rw [h1]; exact hp, by rw [h2, h5 j (by omega)]; exact hc⟩
 · obtain ⟨q, hq, rfl⟩ := List.getElem_of_mem hm
   obtain ⟨h1, h2, h3, h4, h5⟩ := hr q (by omega) hq
   intro hw j hj
   obtain ⟨b, hp, hB, hc⟩ := h.free L[q] (List.getElem_mem (by omega)) (by rw [← h4]; exact hw) j (by omega)
   exact ⟨b, by rw [h1]; exact hp, hB, by rw [h2]; exact hc⟩
 · rw [List.pairwise_iff_getElem]
   intro x y hx hy hxy
   have h0 := List.pairwise_iff_getElem.1 h.apart x y (by omega) (by omega) hxy
   obtain ⟨h1, h2, h3, h4, _⟩ := hr x (by omega) hx
   obtain ⟨k1, k2, k3, k4, _⟩ := hr y (by omega) hy
   unfold Rg.apart at *
   rw [h1, h2, h3, h4, k1, k2, k3, k4]
   exact h0
theorem St.congr_set {B : Nat} {w0 : Base} {w : World} {L : List Rg} {k off m : Nat} {p : Option Nat} {f f' : Nat → Value} {rw : Bool} (h : St B w0 (L.set k ⟨p, off, m, f, rw⟩) w) (hf : ∀ j, j < m → f j = f' j) : St B w0 (L.set k ⟨p, off, m, f', rw⟩) w := by
 refine h.like (by simp) fun q h1 h2 => ?_
 rw [List.getElem_set, List.getElem_set]
 by_cases hk : k = q
 · rw [if_pos hk, if_pos hk]; exact ⟨rfl, rfl, rfl, rfl, fun j hj => (hf j hj).symm⟩
 · rw [if_neg hk, if_neg hk]; exact ⟨rfl, rfl, rfl, rfl, fun j _ => rfl⟩
section step
variable {P : Program} {n : Nat} {K : Pend → Env → World → Prop} {l : List It} {O : Pend} {e : Env} {w : World} {i ty : Nat} {d : Tmp} {pos : String} {aft : Array Edge} {gd g : Option (Nat × Bool)}
variable {B : Nat} {w0 : Base} {L : List Rg}
theorem Plan.held {op : Op} {v : Value} (S : World → Prop) (hg : wantedE n e g = true) (hS : S w) (hv : ∀ w, S w → (execOp (ev n e) ⟨some d, op, ty, pos, aft, gd⟩).run P w = .ok (.value v) w)
   (h : Plan P n K l ((i, S) :: O) (upd e d v) w) : Plan P n K (⟨i, true, ⟨some d, op, ty, pos, aft, gd⟩, g⟩ :: l) O e w := by
 unfold Plan
 rw [if_pos hg]
 exact ⟨v, .inr ⟨S, hS, hv, h⟩⟩
theorem Plan.load1 (hst : St B w0 L w) {t : TypeId} {x : Operand} {b off j m : Nat} {f : Nat → Value} {rw : Bool} (k : Nat) (hg : wantedE n e g = true) (hx : ev n e x = .pointer (some ⟨b, off + j, none⟩)) (hL : L[k]? = some ⟨some b, off, m, f, rw⟩)
   (hj : j < m) (ht : scalarT P t = true) (h : Plan P n K l ((i, (Rg.mk (some b) off m f rw).at) :: O) (upd e d (f j)) w) :
   Plan P n K (⟨i, true, ⟨some d, .load t x, ty, pos, aft, gd⟩, g⟩ :: l) O e w :=
 Plan.held _ hg (hst.mem hL) (fun w hw => run_v (by
   rw [hx]
   obtain ⟨b', hp, hc⟩ := hw j hj
   obtain rfl : b = b' := Option.some.inj hp
   exact run_loadAt_scalar ht hc)) h
theorem Plan.load0 (hst : St B w0 L w) {t : TypeId} {x : Operand} {b off m : Nat} {f : Nat → Value} {rw : Bool} (k : Nat) (hg : wantedE n e g = true) (hx : ev n e x = .pointer (some ⟨b, off, none⟩)) (hL : L[k]? = some ⟨some b, off, m, f, rw⟩)
   (hj : 0 < m) (ht : scalarT P t = true) (h : Plan P n K l ((i, (Rg.mk (some b) off m f rw).at) :: O) (upd e d (f 0)) w) :
   Plan P n K (⟨i, true, ⟨some d, .load t x, ty, pos, aft, gd⟩, g⟩ :: l) O e w :=
 Plan.load1 hst k hg (j := 0) (by rw [hx]; rfl) hL hj ht h
theorem Plan.loadA (hst : St B w0 L w) {t : TypeId} {x : Operand} {b o : Nat} {ps : List (Nat × (Nat → Value))} (hg : wantedE n e g = true) (hx : ev n e x = .pointer (some ⟨b, o, none⟩)) (hL : PartsIn L b o ps)
   (ht : aggT P t (ps.map (·.1)).sum = true) (h : Plan P n K l ((i, fun w => ∀ j v, (catL ps)[j]? = some v → w.cell? ⟨b, o + j, none⟩ = some v) :: O) (upd e d (AG ps)) w) :
   Plan P n K (⟨i, true, ⟨some d, .load t x, ty, pos, aft, gd⟩, g⟩ :: l) O e w :=
 Plan.held _ hg (hL.cells hst) (fun w hw => run_v (by
   rw [hx]
   obtain ⟨dd, hu, hd, hi⟩ := aggT_spec ht
   exact run_loadAt_mid w b o t (catL ps) dd hw hu hd (by rw [catL_length]; exact hi))) h
theorem Plan.eff {dst : Option Tmp} {op : Op} (hg : wantedE n e g = true) (h : uponE P (fun v w' => ((∀ p ∈ O, p.2 w → p.2 w') ∧ Plan P n K l O (updO e dst v) w') ∨ (O.all (fun p => waitsO ⟨dst, op, ty, pos, aft, gd⟩ p.1) = true ∧ Plan P n K l [] (updO e dst v) w'))
   ((execOp (ev n e) ⟨dst, op, ty, pos, aft, gd⟩).run P w)) : Plan P n K (⟨i, false, ⟨dst, op, ty, pos, aft, gd⟩, g⟩ :: l) O e w := by
 unfold Plan
 rw [if_pos hg]
 rw [if_neg (by exact Bool.false_ne_true)]
 exact uponE_mono (fun _ _ hk => hk.imp id Or.inl) h
theorem Plan.effX {dst : Option Tmp} {op : Op} (hg : wantedE n e g = true) (h : uponE P (fun v w' => (∀ p ∈ O, waitsO ⟨dst, op, ty, pos, aft, gd⟩ p.1 = false → p.2 w → p.2 w') ∧ Plan P n K l (O.filter fun p => !waitsO ⟨dst, op, ty, pos, aft, gd⟩ p.1) (updO e dst v) w')
   ((execOp (ev n e) ⟨dst, op, ty, pos, aft, gd⟩).run P w)) : Plan P n K (⟨i, false, ⟨dst, op, ty, pos, aft, gd⟩, g⟩ :: l) O e w := by
 unfold Plan
 rw [if_pos hg]
 rw [if_neg (by exact Bool.false_ne_true)]
 exact uponE_mono (fun _ _ hk => Or.inr (Or.inr hk)) h
theorem run_storeAt_scalar {t : TypeId} {b o : Nat} {u v : Value} {w : World} (ht : szT P t 1 = true) (hv : v.oneCell' = true) (hc : w.cell? ⟨b, o, none⟩ = some u) (hf : w.frozen? ⟨b, o, none⟩ = false) :
   (Instr.storeAt t (.pointer (some ⟨b, o, none⟩)) v).run P w = .ok () (w.setCell ⟨b, o, none⟩ v) := by
 have hcs : v.cells = #[v] := by cases v <;> first | rfl | cases hv
 have h1 : (store (⟨b, o, none⟩ : Addr) v).run P w = .ok () (w.setCell ⟨b, o, none⟩ v) := by
   rw [run_store P w _ v _ hv, hc]; simp [hf]
 simp only [Instr.storeAt, Instr.sureAddr, Sem.run_bind, Sem.run_pure, Result.andThen_ok, storeVar, szT_spec ht, hcs]
 simp [storeCells, Addr.add, h1]
theorem Plan.store1 (hst : St B w0 L w) {t : TypeId} {x y : Operand} {b off j m : Nat} {f : Nat → Value} {v : Value} (k : Nat) (hg : wantedE n e g = true) (hx : ev n e x = .pointer (some ⟨b, off + j, none⟩)) (hy : ev n e y = v) (hL : L[k]? = some ⟨some b, off, m, f, true⟩)
   (hj : j < m) (hv : v.oneCell' = true) (ht : szT P t 1 = true) (hO : O.all (fun p => waitsO ⟨none, .store t x y, ty, pos, aft, gd⟩ p.1) = true)
   (h : ∀ w', St B w0 (L.set k ⟨some b, off, m, upd f j v, true⟩) w' → Plan P n K l [] e w') : Plan P n K (⟨i, false, ⟨none, .store t x y, ty, pos, aft, gd⟩, g⟩ :: l) O e w := by
 refine Plan.eff hg ?_
 have hmem := List.mem_of_getElem? hL
 obtain ⟨b', hp, hc⟩ := hst.at_ _ hmem j hj
 obtain rfl : b = b' := Option.some.inj hp
 obtain ⟨b', hp, hB, hfz⟩ := hst.free _ hmem rfl j hj
 obtain rfl : b = b' := Option.some.inj hp
 have hr : (execOp (ev n e) ⟨none, .store t x y, ty, pos, aft, gd⟩).run P w = .ok .skip (w.setCell ⟨b, off + j, none⟩ v) := run_u (by
   rw [hx, hy]; exact run_storeAt_scalar ht hv hc hfz)
 rw [hr]
 exact .inr ⟨hO, h _ (hst.set hL hj)⟩
theorem Plan.store0 (hst : St B w0 L w) {t : TypeId} {x y : Operand} {b off m : Nat} {f : Nat → Value} {v : Value} (k : Nat) (hg : wantedE n e g = true) (hx : ev n e x = .pointer (some ⟨b, off, none⟩)) (hy : ev n e y = v) (hL : L[k]? = some ⟨some b, off, m, f, true⟩)
   (hj : 0 < m) (hv : v.oneCell' = true) (ht : szT P t 1 = true) (hO : O.all (fun p => waitsO ⟨none, .store t x y, ty, pos, aft, gd⟩ p.1) = true)
   (h : ∀ w', St B w0 (L.set k ⟨some b, off, m, upd f 0 v, true⟩) w' → Plan P n K l [] e w') : Plan P n K (⟨i, false, ⟨none, .store t x y, ty, pos, aft, gd⟩, g⟩ :: l) O e w :=
 Plan.store1 hst k hg (j := 0) (by rw [hx]; rfl) hy hL hj hv ht hO h
theorem Plan.storeU (hst : St B w0 L w) {t : TypeId} {x y : Operand} {b off j m s : Nat} {kd : IntKind} {F : Nat → BitVec s} {X : BitVec s} (k : Nat) (hg : wantedE n e g = true) (hx : ev n e x = .pointer (some ⟨b, off + j, none⟩)) (hy : ev n e y = VU kd X)
   (hL : L[k]? = some ⟨some b, off, m, fun q => VU kd (F q), true⟩)
   (hj : j < m) (ht : szT P t 1 = true) (hO : O.all (fun p => waitsO ⟨none, .store t x y, ty, pos, aft, gd⟩ p.1) = true)
   (h : ∀ w', St B w0 (L.set k ⟨some b, off, m, fun q => VU kd (upd F j X q), true⟩) w' → Plan P n K l [] e w') : Plan P n K (⟨i, false, ⟨none, .store t x y, ty, pos, aft, gd⟩, g⟩ :: l) O e w :=
 Plan.store1 hst k hg hx hy hL hj rfl ht hO fun w' h' => h w' (by
   have : (fun q => VU kd (upd F j X q)) = upd (fun q => VU kd (F q)) j (VU kd X) := by
     funext q; simp only [upd_at]; split <;> rfl
   rw [this]; exact h')
theorem St.setAll (h : St B w0 L w) {k b off m : Nat} {f f' : Nat → Value} (hL : L[k]? = some ⟨some b, off, m, f, true⟩) :
   ∀ q, q ≤ m → St B w0 (L.set k ⟨some b, off, m, fun j => if j < q then f' j else f j, true⟩) (w.setCells b off ((List.range q).map f'))
 | 0, _ => by
   have : (fun j => if j < 0 then f' j else f j) = f := by funext j; simp
   rw [this]
   have h2 : L.set k ⟨some b, off, m, f, true⟩ = L := by
     obtain ⟨hk, hLk⟩ := List.getElem?_eq_some_iff.1 hL
     rw [← hLk]; exact List.set_getElem_self hk
   rw [h2]
   exact h
 | q + 1, hq => by
   have ih := St.setAll h (f' := f') hL q (by omega)
   have hk : k < L.length := (List.getElem?_eq_some_iff.1 hL).1
   have hL' : (L.set k ⟨some b, off, m, fun j => if j < q then f' j else f j, true⟩)[k]? = some ⟨some b, off, m, fun j => if j < q then f' j else f j, true⟩ := by simp [hk]
   have := ih.set (j := q) (v := f' q) hL' (by omega)
   rw [List.set_set] at this
   have hfun : upd (fun j => if j < q then f' j else f j) q (f' q) = fun j => if j < q + 1 then f' j else f j := by
     funext j
     simp only [upd_at]
     by_cases h1 : j = q
     · subst h1; simp
     · by_cases h2 : j < q
       · simp [h1, h2, show j < q + 1 by omega]
       · simp [h1, h2, show ¬ j < q + 1 by omega]
   rw [hfun] at this
   have hcells : (w.setCells b off ((List.range (q + 1)).map f')) = (w.setCells b off ((List.range q).map f')).setCell ⟨b, off + q, none⟩ (f' q) := by
     rw [List.range_succ, List.map_append]
     have : ∀ (vs : List Value) (o : Nat) (w : World) (v : Value), w.setCells b o (vs ++ [v]) = (w.setCells b o vs).setCell ⟨b, o + vs.length, none⟩ v := by
       intro vs
       induction vs with
       | nil => intro o w v; simp [World.setCells]
       | cons u vs ih => intro o w v; simp only [List.cons_append, World.setCells]; rw [ih]; simp only [List.length_cons]; rw [show o + 1 + vs.length = o + (vs.length + 1) by omega]
     simpa using this ((List.range q).map f') off w (f' q)
   rw [hcells]
   exact this
end step
end Go.LW
namespace Go.LW
set_option linter.unusedSimpArgs false
set_option linter.unusedVariables false
set_option linter.unusedSectionVars false
open Go Go.RowKit
def zeroIs (P : Program) (t : TypeId) (ps : List (Nat × (Nat → Value))) : Prop := ∃ z, (P.info? t).bind (·.zero) = some z ∧ z.cells = (catL ps).toArray
theorem zeroIs_agg {P : Program} {t : TypeId} {ps : List (Nat × (Nat → Value))} (h : (P.info? t).bind (·.zero) = some (AG ps)) : zeroIs P t ps := ⟨_, h, rfl⟩
theorem run_zeroValue {P : Program} {t : TypeId} {z : Value} (h : (P.info? t).bind (·.zero) = some z) (w : World) : (zeroValue t).run P w = .ok z w := by
 cases hi : P.info? t with
 | none => rw [hi] at h; cases h
 | some i =>
   rw [hi] at h
   have hz : i.zero = some z := h
   simp [zeroValue, typeInfo, hi, hz]
section step
variable {P : Program} {n : Nat} {K : Pend → Env → World → Prop} {l : List It} {O : Pend} {e : Env} {w : World} {i ty : Nat} {d : Tmp} {pos : String} {aft : Array Edge} {gd g : Option (Nat × Bool)}
variable {B : Nat} {w0 : Base} {L : List Rg}
theorem PartsIn.app {L L' : List Rg} {b o : Nat} {ps : List (Nat × (Nat → Value))} (h : PartsIn L b o ps) (M : List Rg) (hL : L' = M ++ L) : PartsIn L' b o ps := by
 induction h with
 | nil => exact .nil
 | cons i h t ih => exact .cons (M.length + i) (by rw [hL]; rw [List.getElem?_append_right (by omega)]; simpa using h) ih
theorem PIn.app {O : Pend} {L L' : List Rg} (h : PIn O L) (M : List Rg) (hL : L' = M ++ L) : PIn O L' := by
 induction h with
 | nil => exact .nil
 | cons i h t ih => exact .cons (M.length + i) (by rw [hL]; rw [List.getElem?_append_right (by omega)]; simpa using h) (ih hL)
 | tru t ih => exact .tru (ih hL)
 | parts h t ih => exact .parts (h.app M hL) (ih hL)
theorem Plan.alloc (hst : St B w0 L w) {t : TypeId} {ps : List (Nat × (Nat → Value))} (hg : wantedE n e g = true) (hz : zeroIs P t ps) (hO : PIn O L)
   (h : ∀ b w', B ≤ b → St B w0 (rngs b 0 ps ++ L) w' → Plan P n K l O (upd e d (.pointer (some ⟨b, 0, none⟩))) w') :
   Plan P n K (⟨i, false, ⟨some d, .alloc t, ty, pos, aft, gd⟩, g⟩ :: l) O e w := by
 refine Plan.eff hg ?_
 obtain ⟨z, hz1, hz2⟩ := hz
 have hr : (execOp (ev n e) ⟨some d, .alloc t, ty, pos, aft, gd⟩).run P w = .ok (.value (.pointer (some ⟨w.heap.size, 0, none⟩))) (w.alloc (.cells (catL ps).toArray t)) := run_v (by
   simp only [Instr.alloc, Sem.run_bind, run_zeroValue hz1, Result.andThen, newVar, newRow, newObj, hz2]
   rfl)
 rw [hr]
 have h' := hst.alloc ps t
 exact .inl ⟨(hO.app _ rfl).keep h', h _ _ hst.base h'⟩
theorem Plan.boxA (hst : St B w0 L w) {t : TypeId} {x : Operand} {ps : List (Nat × (Nat → Value))} (hg : wantedE n e g = true) (hx : ev n e x = AG ps) (hO : PIn O L)
   (h : ∀ b w', B ≤ b → St B w0 (rngs b 0 ps ++ L) w' → Plan P n K l O (upd e d (.pointer (some ⟨b, 0, none⟩))) w') :
   Plan P n K (⟨i, false, ⟨some d, .box t x, ty, pos, aft, gd⟩, g⟩ :: l) O e w := by
 refine Plan.eff hg ?_
 have hr : (execOp (ev n e) ⟨some d, .box t x, ty, pos, aft, gd⟩).run P w = .ok (.value (.pointer (some ⟨w.heap.size, 0, none⟩))) (w.alloc (.cells (catL ps).toArray t)) := run_v (by
   rw [hx]; rfl)
 rw [hr]
 have h' := hst.alloc ps t
 exact .inl ⟨(hO.app _ rfl).keep h', h _ _ hst.base h'⟩
theorem Plan.nilCheck {x : Operand} {a : Addr} (hg : wantedE n e g = true) (hx : ev n e x = .pointer (some a)) (h : Plan P n K l O (upd e d (.pointer (some a))) w) :
   Plan P n K (⟨i, true, ⟨some d, .nilCheck x, ty, pos, aft, gd⟩, g⟩ :: l) O e w :=
 Plan.val hg (fun w => by simp [execOp, hx, pure]) h
def fieldB (P : Program) (t : TypeId) (f off : Nat) : Bool := match P.underlying t with
 | some (.struct fs) => match fs[f]? with
   | some fd => fd.offset == off && (match P.info? fd.type with | some i => !(i.size == 0) | none => false)
   | none => false
 | _ => false
theorem run_fieldAt {t : TypeId} {f off : Nat} {b o : Nat} {w : World} (hf : fieldB P t f off = true) : (Instr.fieldAt t (.pointer (some ⟨b, o, none⟩)) f).run P w = .ok (.pointer (some ⟨b, o + off, none⟩)) w := by
 unfold fieldB at hf
 cases hu : P.underlying t with
 | none => rw [hu] at hf; cases hf
 | some dsc =>
   rw [hu] at hf
   cases dsc <;> try (cases hf; done)
   rename_i fs
   simp only at hf
   cases hfd : fs[f]? with
   | none => rw [hfd] at hf; cases hf
   | some fd =>
     rw [hfd] at hf
     simp only [Bool.and_eq_true, beq_iff_eq] at hf
     obtain ⟨h1, h2⟩ := hf
     cases hi : P.info? fd.type with
     | none => rw [hi] at h2; cases h2
     | some inf =>
       rw [hi] at h2
       have h3 : ¬ inf.size = 0 := by simpa using h2
       simp only [Instr.fieldAt, Sem.run_bind, run_underlying hu w, Result.andThen, hfd, Instr.sureAddr, Sem.run_pure, fieldPlace]
       simp only [sizeOf, typeInfo, Sem.run_bind, run_program, Result.andThen, hi, Sem.run_pure, h3, if_false, ← h1]
       simp only [Addr.add]
       split
       · rename_i h0; simp [h0]
       · rfl
theorem Plan.fieldAddr {t : TypeId} {x : Operand} {b o f : Nat} (off : Nat) (hf : fieldB P t f off = true) (hg : wantedE n e g = true) (hx : ev n e x = .pointer (some ⟨b, o, none⟩))
   (h : Plan P n K l O (upd e d (.pointer (some ⟨b, o + off, none⟩))) w) : Plan P n K (⟨i, true, ⟨some d, .fieldAddr t x f, ty, pos, aft, gd⟩, g⟩ :: l) O e w :=
 Plan.val hg (fun w => run_v (by rw [hx]; exact run_fieldAt hf)) h
theorem Plan.fieldAddr0 {t : TypeId} {x : Operand} {b o f : Nat} (hf : fieldB P t f 0 = true) (hg : wantedE n e g = true) (hx : ev n e x = .pointer (some ⟨b, o, none⟩))
   (h : Plan P n K l O (upd e d (.pointer (some ⟨b, o, none⟩))) w) : Plan P n K (⟨i, true, ⟨some d, .fieldAddr t x f, ty, pos, aft, gd⟩, g⟩ :: l) O e w :=
 Plan.fieldAddr 0 hf hg hx h
def slB (P : Program) (t : TypeId) (sz : Nat) : Bool := match P.underlying t with
 | some (.slice el) => szT P el sz
 | _ => false
theorem slB_spec {t : TypeId} {sz : Nat} (h : slB P t sz = true) : ∃ el, P.underlying t = some (.slice el) ∧ szT P el sz = true := by
 unfold slB at h
 cases hu : P.underlying t with
 | none => rw [hu] at h; cases h
 | some dsc =>
   rw [hu] at h
   cases dsc <;> try (cases h; done)
   exact ⟨_, rfl, h⟩
theorem add_addr (b o k : Nat) : (⟨b, o, none⟩ : Addr).add k = ⟨b, o + k, none⟩ := Addr.add_mid b o k
theorem Plan.idxSl {t : TypeId} {x y : Operand} {b o j len cap sz : Nat} {k : IntKind} (ha : slB P t sz = true) (hg : wantedE n e g = true) (hx : ev n e x = .slice (some ⟨b, o, none⟩) len cap) (hy : ev n e y = .int k (j : Int)) (hj : j < len)
   (h : Plan P n K l O (upd e d (.pointer (some ⟨b, o + j * sz, none⟩))) w) : Plan P n K (⟨i, true, ⟨some d, .indexAddr t x y, ty, pos, aft, gd⟩, g⟩ :: l) O e w :=
 Plan.val hg (fun w => run_v (by
   obtain ⟨el, hu, hs⟩ := slB_spec ha
   rw [hx, hy]
   have hc : (0 : Int) ≤ (j : Int) ∧ (j : Int) < (len : Int) := by omega
   simp only [Instr.indexAt, asIntOf, Sem.run_bind, Sem.run_pure, Result.andThen, run_underlying hu w, if_pos hc, szT_spec hs, Int.toNat_natCast, add_addr])) h
theorem Plan.idxSl1 {t : TypeId} {x y : Operand} {b o j len cap : Nat} {k : IntKind} (ha : slB P t 1 = true) (hg : wantedE n e g = true) (hx : ev n e x = .slice (some ⟨b, o, none⟩) len cap) (hy : ev n e y = .int k (j : Int)) (hj : j < len)
   (h : Plan P n K l O (upd e d (.pointer (some ⟨b, o + j, none⟩))) w) : Plan P n K (⟨i, true, ⟨some d, .indexAddr t x y, ty, pos, aft, gd⟩, g⟩ :: l) O e w :=
 Plan.idxSl ha hg hx hy hj (by rw [Nat.mul_one]; exact h)
theorem run_call {f : FuncId} {ρ : Operand → Value} {args : Array Operand} {at' : Array TypeId} {dst : Option Tmp} (hok : callB P f = true) (w : World) :
   (execOp ρ ⟨dst, .call ⟨.value (.func f), args, at'⟩, ty, pos, aft, gd⟩).run P w = .ok (.enter f (args.map ρ)) w ∨ ρ (.func f) ≠ .func (.func f) #[] #[] := by
 by_cases hρ : ρ (.func f) = .func (.func f) #[] #[]
 · refine .inl ?_
   unfold callB at hok
   cases hf : P.funcs[f]? with
   | none => rw [hf] at hok; cases hok
   | some fn =>
     rw [hf] at hok
     simp only [Bool.and_eq_true, Bool.not_eq_true'] at hok
     simp only [execOp, resolve, hρ, Deferred.ofValue, Sem.run_bind, Sem.run_pure, Result.andThen, invoke, callFunc, run_program, hf, hok.1, hok.2, Bool.false_eq_true, if_false]
     simp
 · exact .inr hρ
theorem Plan.call {f : FuncId} {args : Array Operand} {at' : Array TypeId} {dst : Option Tmp} {vs : List Value} {R : Ending → World → Prop} (hg : wantedE n e g = true) (hok : callB P f = true) (hargs : args.toList.map (ev n e) = vs)
   (hc : Calls P f vs.toArray w R)
   (hR : ∀ x w', R x w' → ∃ v, x = .returned v ∧ (((∀ p ∈ O, p.2 w → p.2 w') ∧ Plan P n K l O (updO e dst v) w') ∨ (O.all (fun p => waitsO ⟨dst, .call ⟨.value (.func f), args, at'⟩, ty, pos, aft, gd⟩ p.1) = true ∧ Plan P n K l [] (updO e dst v) w'))) :
   Plan P n K (⟨i, false, ⟨dst, .call ⟨.value (.func f), args, at'⟩, ty, pos, aft, gd⟩, g⟩ :: l) O e w := by
 refine Plan.eff hg ?_
 rcases run_call (P := P) (ty := ty) (pos := pos) (aft := aft) (gd := gd) (ρ := ev n e) (args := args) (at' := at') (dst := dst) hok w with hr | hr
 · rw [hr]
   show Calls P f (args.map (ev n e)) w _
   have : args.map (ev n e) = vs.toArray := by
     rw [← hargs, ← Array.toList_map]
   rw [this]
   exact hc.mono hR
 · exact absurd rfl hr
theorem Plan.extract {x : Operand} {k : Nat} {vs : Array Value} {v : Value} (hg : wantedE n e g = true) (hx : ev n e x = .tuple vs) (hv : vs[k]? = some v) (h : Plan P n K l O (upd e d v) w) :
   Plan P n K (⟨i, true, ⟨some d, .extract x k, ty, pos, aft, gd⟩, g⟩ :: l) O e w :=
 Plan.val hg (fun w => run_v (by rw [hx]; simp [Instr.extract, hv])) h
end step
def RetOk (P : Program) (n : Nat) (fn : Func) (R : Ending → World → Prop) (e : Env) (w : World) : Prop := ∃ v, (results fn (act n e).tmps).run P w = .ok v w ∧ R (.returned v) w
def finR (P : Program) (n : Nat) (fn : Func) (R : Ending → World → Prop) : Exit → Env → World → Prop
 | .normal, e, w => RetOk P n fn R e w
 | .ret, e, w => RetOk P n fn R e w
 | _, _, _ => False
theorem W.enter {P : Program} {f : FuncId} {fn : Func} {c : Code} {args : Array Value} {w : World} {R : Ending → World → Prop} (n : Nat) (hf : P.funcs[f]? = some fn) (hb : fn.body = some c) (hn : fn.ntmps = n) (ha : Nat.ble args.size n = true)
   (h : W P n c (finR P n fn R) (fun i => args.getD i undef) w) : Calls P f args w R := by
 refine calls_of_wp hf hb ?_
 rw [hn, act_enter n args (by simpa using ha)]
 refine wp_mono h fun x a w hq => ?_
 cases x with
 | normal => obtain ⟨e, rfl, v, h1, h2⟩ := hq; exact ⟨rfl, v, h1, h2⟩
 | ret => obtain ⟨e, rfl, v, h1, h2⟩ := hq; exact ⟨rfl, v, h1, h2⟩
 | exit id => obtain ⟨e, _, h⟩ := hq; exact h.elim
 | goto l => obtain ⟨e, _, h⟩ := hq; exact h.elim
 | panic ch => exact hq.elim
 | outgrown => exact hq.elim
section exits
variable {P : Program} {n : Nat} {fn : Func} {Rf : Ending → World → Prop} {K : Env → World → Prop} {R : Exit → Env → World → Prop} {e : Env} {w : World} {id id' : Nat}
theorem finR_ret (h : RetOk P n fn Rf e w) : finR P n fn Rf .ret e w := h
theorem thenR_ret (h : R .ret e w) : thenR K R .ret e w := h
theorem thenR_exit (h : R (.exit id) e w) : thenR K R (.exit id) e w := h
theorem blockR_ret (h : R .ret e w) : blockR id R .ret e w := h
theorem blockR_norm (h : R .normal e w) : blockR id R .normal e w := h
theorem blockR_here (h : R .normal e w) : blockR id R (.exit id) e w := by
 show (if id = id then R .normal e w else R (.exit id) e w)
 rw [if_pos rfl]; exact h
end exits
inductive Res (P : Program) (n : Nat) (e : Env) (w : World) : List ResultVar → List Value → Prop
 | nil : Res P n e w [] []
 | tmp {t : Tmp} {v : Value} {rs : List ResultVar} {vs : List Value} (h : ev n e (.tmp t) = v) (r : Res P n e w rs vs) : Res P n e w (.tmp t :: rs) (v :: vs)
 | cell {p : Tmp} {t : TypeId} {a : Addr} {v : Value} {rs : List ResultVar} {vs : List Value} (h : ev n e (.tmp p) = .pointer (some a)) (hv : (Instr.loadAt t (.pointer (some a))).run P w = .ok v w) (r : Res P n e w rs vs) : Res P n e w (.cell p t :: rs) (v :: vs)
def packR : List Value → Value
 | [v] => v
 | vs => .tuple vs.toArray
def resOf (tmps : Array Value) : ResultVar → Sem Value
 | .tmp t => pure (tmps.getD t undef)
 | .cell a t => do loadVar t (← asAddr (tmps.getD a undef))
theorem results_eq (fn : Func) (tmps : Array Value) : results fn tmps = (do let vs ← fn.results.mapM (resOf tmps); pure (if h : vs.size = 1 then vs[0] else .tuple vs)) := by
 unfold results
 congr 1
theorem results_run {P : Program} {n : Nat} {e : Env} {w : World} {fn : Func} {vs : List Value} (h : Res P n e w fn.results.toList vs) : (results fn (act n e).tmps).run P w = .ok (packR vs) w := by
 have key : ∀ (rs : List ResultVar) (vs : List Value), Res P n e w rs vs → (rs.mapM (resOf (act n e).tmps)).run P w = Result.ok vs w := by
   intro rs vs hr
   induction hr with
   | nil => rfl
   | @tmp t v rs vs h r ih =>
     have h1 : (act n e).tmps.getD t undef = v := by rw [← h, ← act_eval]; rfl
     rw [List.mapM_cons]
     simp only [Sem.run_bind, resOf, h1, Sem.run_pure, Result.andThen, ih]
   | @cell p t a v rs vs h hv r ih =>
     have h1 : (act n e).tmps.getD p undef = .pointer (some a) := by rw [← h, ← act_eval]; rfl
     have h2 : (loadVar t a).run P w = .ok v w := by simpa [Instr.loadAt, Instr.sureAddr] using hv
     have h3 : (resOf (act n e).tmps (.cell p t)).run P w = Result.ok v w := by
       show (do loadVar t (← asAddr ((act n e).tmps.getD p undef)) : Sem Value).run P w = _
       rw [h1]
       exact h2
     rw [List.mapM_cons]
     simp only [Sem.run_bind, h3, Sem.run_pure, Result.andThen, ih]
 rw [results_eq, Array.mapM_eq_mapM_toList, Sem.run_bind, Sem.run_map, key _ _ h]
 simp only [Result.andThen]
 match vs with
 | [] => rfl
 | [v] => rfl
 | u :: v :: r => simp [packR]
theorem RetOk.mk {P : Program} {n : Nat} {fn : Func} {R : Ending → World → Prop} {e : Env} {w : World} {vs : List Value} (h : Res P n e w fn.results.toList vs) (hR : R (.returned (packR vs)) w) : RetOk P n fn R e w :=
 ⟨_, results_run h, hR⟩
theorem Res.agg {P : Program} {n : Nat} {e : Env} {w : World} {B : Nat} {w0 : Base} {L : List Rg} (hst : St B w0 L w) {p : Tmp} {t : TypeId} {b o : Nat} {ps : List (Nat × (Nat → Value))} {rs : List ResultVar} {vs : List Value} (h : ev n e (.tmp p) = .pointer (some ⟨b, o, none⟩))
   (hL : PartsIn L b o ps) (ht : aggT P t (ps.map (·.1)).sum = true) (r : Res P n e w rs vs) : Res P n e w (.cell p t :: rs) (AG ps :: vs) :=
 .cell h (by
   obtain ⟨dd, hu, hd, hi⟩ := aggT_spec ht
   exact run_loadAt_mid w b o t (catL ps) dd (hL.cells hst) hu hd (by rw [catL_length]; exact hi)) r
end Go.LW
namespace Go.LW
set_option linter.unusedSimpArgs false
set_option linter.unusedVariables false
set_option linter.unusedSectionVars false
open Go Go.RowKit
def ups (e : Env) : List (Nat × Value) → Env
 | [] => e
 | (s, v) :: r => upd (ups e r) s v
inductive EnvHas (e : Env) : List (Nat × Value) → Prop
 | nil : EnvHas e []
 | cons {s : Nat} {v : Value} {r : List (Nat × Value)} (h : e s = v) (t : EnvHas e r) : EnvHas e ((s, v) :: r)
theorem EnvHas.open {e : Env} {r : List (Nat × Value)} (h : EnvHas e r) : ∃ e', e = ups e' r := by
 refine ⟨e, ?_⟩
 induction h with
 | nil => rfl
 | @cons s v r h t ih =>
   funext i
   show e i = upd (ups e r) s v i
   rw [upd_at, ← ih]
   split
   · rename_i hi; rw [hi]; exact h
   · rfl
section res
variable {P : Program} {n : Nat} {e : Env} {w : World} {rs : List ResultVar} {vs : List Value} {t : Tmp}
theorem Res.tmp_int {k : IntKind} {a : Int} (h : ev n e (.tmp t) = .int k a) (r : Res P n e w rs vs) : Res P n e w (.tmp t :: rs) (.int k a :: vs) := .tmp h r
theorem Res.tmp_bool {b : Bool} (h : ev n e (.tmp t) = .bool b) (r : Res P n e w rs vs) : Res P n e w (.tmp t :: rs) (.bool b :: vs) := .tmp h r
theorem Res.tmp_ptr {a : Option Addr} (h : ev n e (.tmp t) = .pointer a) (r : Res P n e w rs vs) : Res P n e w (.tmp t :: rs) (.pointer a :: vs) := .tmp h r
theorem Res.tmp_slice {p : Option Addr} {a c : Nat} (h : ev n e (.tmp t) = .slice p a c) (r : Res P n e w rs vs) : Res P n e w (.tmp t :: rs) (.slice p a c :: vs) := .tmp h r
theorem Res.one {B : Nat} {w0 : Base} {L : List Rg} (hst : St B w0 L w) {p : Tmp} {t : TypeId} {b o m : Nat} {f : Nat → Value} {rw : Bool} (h : ev n e (.tmp p) = .pointer (some ⟨b, o, none⟩)) (k : Nat) (hL : L[k]? = some ⟨some b, o, m, f, rw⟩) (hj : 0 < m) (ht : scalarT P t = true)
   (r : Res P n e w rs vs) : Res P n e w (.cell p t :: rs) (f 0 :: vs) :=
 .cell h (by
   obtain ⟨b', hp, hc⟩ := hst.mem hL 0 hj
   obtain rfl : b = b' := Option.some.inj hp
   exact run_loadAt_scalar ht hc) r
end res
theorem St.tl {B : Nat} {w0 : Base} {w : World} {L : List Rg} {r : Rg} (h : St B w0 (r :: L) w) : St B w0 L w := h.sub (List.sublist_cons_self r L)
section step
variable {P : Program} {n : Nat} {K : Pend → Env → World → Prop} {l : List It} {O : Pend} {e : Env} {w : World} {i ty : Nat} {d : Tmp} {pos : String} {aft : Array Edge} {gd g : Option (Nat × Bool)}
theorem Plan.extract_int {x : Operand} {k : Nat} {vs : Array Value} {kd : IntKind} {a : Int} (hg : wantedE n e g = true) (hx : ev n e x = .tuple vs) (hv : vs[k]? = some (.int kd a)) (h : Plan P n K l O (upd e d (.int kd a)) w) :
   Plan P n K (⟨i, true, ⟨some d, .extract x k, ty, pos, aft, gd⟩, g⟩ :: l) O e w := Plan.extract hg hx hv h
theorem Plan.extract_bool {x : Operand} {k : Nat} {vs : Array Value} {b : Bool} (hg : wantedE n e g = true) (hx : ev n e x = .tuple vs) (hv : vs[k]? = some (.bool b)) (h : Plan P n K l O (upd e d (.bool b)) w) :
   Plan P n K (⟨i, true, ⟨some d, .extract x k, ty, pos, aft, gd⟩, g⟩ :: l) O e w := Plan.extract hg hx hv h
theorem Plan.extract_ptr {x : Operand} {k : Nat} {vs : Array Value} {a : Option Addr} (hg : wantedE n e g = true) (hx : ev n e x = .tuple vs) (hv : vs[k]? = some (.pointer a)) (h : Plan P n K l O (upd e d (.pointer a)) w) :
   Plan P n K (⟨i, true, ⟨some d, .extract x k, ty, pos, aft, gd⟩, g⟩ :: l) O e w := Plan.extract hg hx hv h
theorem Plan.extract_agg {x : Operand} {k : Nat} {vs : Array Value} {s : Array Value} (hg : wantedE n e g = true) (hx : ev n e x = .tuple vs) (hv : vs[k]? = some (.agg s)) (h : Plan P n K l O (upd e d (.agg s)) w) :
   Plan P n K (⟨i, true, ⟨some d, .extract x k, ty, pos, aft, gd⟩, g⟩ :: l) O e w := Plan.extract hg hx hv h
theorem run_blt {b : Builtin} {x : Operand} {ρ : Operand → Value} {t ty : TypeId} {v : Value} {dst : Option Tmp} {w : World}
   (h : ∀ cs, (builtin b #[t] ty cs #[ρ x]).run P w = .ok (.value v) w) : (execOp ρ ⟨dst, .call ⟨.builtin b, #[x], #[t]⟩, ty, pos, aft, gd⟩).run P w = .ok (.value v) w := by
 have e1 : Array.map ρ #[x] = #[ρ x] := by simp
 simp only [execOp, resolve, Sem.run_bind, Sem.run_pure, Result.andThen, invoke, e1]
 exact h _
theorem Plan.len {x : Operand} {t : TypeId} {p : Option Addr} {a c : Nat} (ht : ∃ el, P.underlying t = some (.slice el)) (hg : wantedE n e g = true) (hx : ev n e x = .slice p a c)
   (h : Plan P n K l O (upd e d (VN a)) w) : Plan P n K (⟨i, true, ⟨some d, .call ⟨.builtin .len, #[x], #[t]⟩, ty, pos, aft, gd⟩, g⟩ :: l) O e w :=
 Plan.val hg (fun w => run_blt (fun cs => by
   obtain ⟨el, hu⟩ := ht
   rw [hx]
   simp only [builtin, Sem.run_bind]
   have : (Builtin.len_ #[t] ty #[.slice p a c]).run P w = .ok (goInt a) w := by simp [Builtin.len_, run_underlying hu]
   rw [this]; rfl)) h
def writeL : List Value → Nat → List Value → List Value
 | cs, _, [] => cs
 | cs, o, v :: r => writeL (cs.set o v) (o + 1) r
def cellsL : Value → List Value
 | .agg cs => cs.toList
 | v => [v]
def fillL (place : Nat → Option (Nat × Nat)) : List Value → List (Nat × Value) → Option (List Value)
 | cs, [] => some cs
 | cs, (i, v) :: r => match place i with
   | none => none
   | some (o, sz) => cond (Nat.beq (cellsL v).length sz && Nat.ble (o + sz) cs.length) (fillL place (writeL cs o (cellsL v)) r) none
theorem cellsL_eq (v : Value) : v.cells = (cellsL v).toArray := by cases v <;> simp [Value.cells, cellsL]
theorem writeL_fold (vs : List Value) : ∀ (cs : List Value) (o k : Nat), (vs.zipIdx k).foldl (fun (a : Array Value) (p : Value × Nat) => a.setIfInBounds (o + p.2) p.1) cs.toArray = (writeL cs (o + k) vs).toArray := by
 induction vs with
 | nil => intro cs o k; rfl
 | cons v vs ih =>
   intro cs o k
   rw [List.zipIdx_cons, List.foldl_cons]
   simp only [List.setIfInBounds_toArray]
   rw [ih]
   simp only [writeL]
   rw [Nat.add_assoc]
theorem fillL_spec {place : Nat → Option (Nat × Nat)} : ∀ (vs : List (Nat × Value)) (cs rs : List Value), fillL place cs vs = some rs → Instr.fill place cs.toArray vs = some rs.toArray
 | [], cs, rs, h => by
   simp only [fillL, Option.some.injEq] at h
   subst h; rfl
 | (i, v) :: r, cs, rs, h => by
   unfold fillL at h
   unfold Instr.fill
   cases hp : place i with
   | none => rw [hp] at h; cases h
   | some osz =>
     obtain ⟨o, sz⟩ := osz
     rw [hp] at h
     simp only at h ⊢
     cases hc : (Nat.beq (cellsL v).length sz && Nat.ble (o + sz) cs.length) with
     | false => rw [hc] at h; cases h
     | true =>
       rw [hc] at h
       simp only [Bool.and_eq_true] at hc
       have h1 := Nat.eq_of_beq_eq_true hc.1
       have h2 := Nat.le_of_ble_eq_true hc.2
       rw [cellsL_eq]
       have h3 : ¬ ((cellsL v).toArray.size ≠ sz ∨ o + (cellsL v).toArray.size > cs.toArray.size) := by
         simp only [List.size_toArray]; omega
       rw [if_neg (by simpa using h3)]
       have h4 : ((cellsL v).toArray.zipIdx.foldl (fun (cs : Array Value) (p : Value × Nat) => cs.setIfInBounds (o + p.2) p.1) cs.toArray) = (writeL cs o (cellsL v)).toArray := by
         have := writeL_fold (cellsL v) cs o 0
         simpa using this
       exact (congrArg (fun a => Instr.fill place a r) h4).trans (fillL_spec r _ rs h)
def placesB (P : Program) (t : TypeId) (pl : List (Nat × Nat)) : Bool := match P.underlying t with
 | some (.struct fs) => fs.toList.map (fun f => (f.offset, match P.info? f.type with | some i => i.size | none => 1000000007)) == pl
 | _ => false
theorem Plan.buildStr {t : TypeId} {parts : Array (Nat × Operand)} {pl : List (Nat × Nat)} {zps ps : List (Nat × (Nat → Value))} {vs : List (Nat × Value)} (ha : placesB P t pl = true) (hpl : pl.all (fun q => q.2 < 1000000) = true) (hz : zeroIs P t zps) (hg : wantedE n e g = true)
   (hv : parts.toList.map (fun p => (p.1, ev n e p.2)) = vs) (hf' : fillL (fun i => pl[i]?) (catL zps) vs = some (catL ps))
   (h : Plan P n K l O (upd e d (AG ps)) w) : Plan P n K (⟨i, true, ⟨some d, .build t parts, ty, pos, aft, gd⟩, g⟩ :: l) O e w :=
 Plan.val hg (fun w => run_v (by
   have hf := fillL_spec _ _ _ hf'
   obtain ⟨z, hz1, hz2⟩ := hz
   have hmap : (parts.map fun (i, x) => (i, ev n e x)).toList = vs := by rw [← hv]; simp
   unfold placesB at ha
   cases hu : P.underlying t with
   | none => rw [hu] at ha; cases ha
   | some dsc =>
     rw [hu] at ha
     cases dsc <;> try (cases ha; done)
     rename_i fs
     simp only [beq_iff_eq] at ha
     have key : (fs.mapM fun f => do pure (f.offset, ← sizeOf f.type) : Sem (Array (Nat × Nat))).run P w = Result.ok pl.toArray w := by
       rw [Array.mapM_eq_mapM_toList, Sem.run_map]
       have : ∀ (l : List Field) (pl : List (Nat × Nat)), l.map (fun f => (f.offset, match P.info? f.type with | some i => i.size | none => 1000000007)) = pl → pl.all (fun q => q.2 < 1000000) = true →
           (l.mapM fun f => do pure (f.offset, ← sizeOf f.type) : Sem (List (Nat × Nat))).run P w = Result.ok pl w := by
         intro l
         induction l with
         | nil => intro pl h _; subst h; rfl
         | cons f l ih =>
           intro pl h hall
           subst h
           simp only [List.map_cons, List.all_cons, Bool.and_eq_true, decide_eq_true_eq] at hall
           rw [List.mapM_cons]
           have hsz : (sizeOf f.type).run P w = .ok (match P.info? f.type with | some i => i.size | none => 1000000007) w := by
             cases hi : P.info? f.type with
             | none => rw [hi] at hall; simp at hall
             | some inf => simp [sizeOf, typeInfo, hi]
           simp only [Sem.run_bind, hsz, Result.andThen, Sem.run_pure, ih _ rfl hall.2, List.map_cons]
       rw [this fs.toList pl ha hpl]
       rfl
     simp only [Instr.build, Sem.run_bind, run_zeroValue hz1, Result.andThen, run_underlying hu w, key, hz2, hmap]
     have h2 : (fun x : Nat => pl.toArray[x]?) = fun i : Nat => pl[i]? := by funext i; simp
     rw [h2, hf]
     rfl)) h
end step
end Go.LW
namespace Go.LW
set_option linter.unusedSimpArgs false
set_option linter.unusedVariables false
set_option linter.unusedSectionVars false
open Go Go.RowKit
def waitsA (aft : Array Edge) (i : Nat) : Bool := aft.toList.any fun e => Region.binds .any e && Nat.beq e.on i
inductive EffO (aft : Array Edge) (O : Pend) (L' : List Rg) : Pend → Prop
 | keep (h : PIn O L') : EffO aft O L' O
 | wait (h : O.all (fun p => waitsA aft p.1) = true) : EffO aft O L' []
 | mix (O' : Pend) (h : O.filter (fun p => !waitsA aft p.1) = O') (hp : PIn O' L') : EffO aft O L' O'
theorem PIn.mix {aft : Array Edge} {O O' : Pend} {L' : List Rg} (h : O.filter (fun p => !waitsA aft p.1) = O') (hp : PIn O' L') {B : Nat} {w0 : Base} {w w' : World} (hst : St B w0 L' w') : ∀ p ∈ O, waitsA aft p.1 = false → p.2 w → p.2 w' := fun p hm hw =>
 hp.keep hst p (by rw [← h]; exact List.mem_filter.2 ⟨hm, by rw [hw]; rfl⟩)
def pick (is : List Nat) (C : List Rg) : List Rg := is.filterMap fun i => C[i]?
theorem St.pickT {B : Nat} {w0 : Base} {w : World} {C L : List Rg} (h : St B w0 (C ++ L) w) (is : List Nat) (hn : is.Nodup) : St B w0 (pick is C ++ L) w := by
 have hC : ∀ r ∈ pick is C, ∃ i, i ∈ is ∧ C[i]? = some r := fun r hr => by
   obtain ⟨i, hi, hr⟩ := List.mem_filterMap.1 hr
   exact ⟨i, hi, hr⟩
 have hmem : ∀ r ∈ pick is C ++ L, r ∈ C ++ L := fun r hr => by
   rcases List.mem_append.1 hr with hr | hr
   · obtain ⟨i, _, hi⟩ := hC r hr
     exact List.mem_append_left _ (List.mem_of_getElem? hi)
   · exact List.mem_append_right _ hr
 have hap := List.pairwise_append.1 h.apart
 refine ⟨h.below, h.base, fun r hr => h.at_ r (hmem r hr), fun r hr => h.free r (hmem r hr), List.pairwise_append.2 ⟨?_, hap.2.1, fun r hr s hs => ?_⟩⟩
 · have key : ∀ is : List Nat, is.Nodup → (pick is C).Pairwise Rg.apart := by
     intro is
     induction is with
     | nil => intro _; exact .nil
     | cons i is ih =>
       intro hn
       obtain ⟨h1, h2⟩ := List.nodup_cons.1 hn
       unfold pick
       rw [List.filterMap_cons]
       split
       · exact ih h2
       · rename_i r hr
         refine List.pairwise_cons.2 ⟨fun s hs => ?_, ih h2⟩
         obtain ⟨j, hj, hs⟩ := List.mem_filterMap.1 hs
         have hij : i ≠ j := fun e => h1 (e ▸ hj)
         obtain ⟨hi', hri⟩ := List.getElem?_eq_some_iff.1 hr
         obtain ⟨hj', hsj⟩ := List.getElem?_eq_some_iff.1 hs
         rw [← hri, ← hsj]
         rcases Nat.lt_or_ge i j with hlt | hge
         · exact List.pairwise_iff_getElem.1 hap.1 i j hi' hj' hlt
         · exact (List.pairwise_iff_getElem.1 hap.1 j i hj' hi' (by omega)).symm
   exact key is hn
 · obtain ⟨i, _, hi⟩ := hC r hr
   exact hap.2.2 r (List.mem_of_getElem? hi) s hs
theorem setCells_append (b : Nat) : ∀ (us vs : List Value) (o : Nat) (w : World), w.setCells b o (us ++ vs) = (w.setCells b o us).setCells b (o + us.length) vs
 | [], vs, o, w => by simp [World.setCells]
 | u :: us, vs, o, w => by
   simp only [List.cons_append, World.setCells, setCells_append b us vs, List.length_cons]
   rw [show o + 1 + us.length = o + (us.length + 1) by omega]
inductive PartsSet (b : Nat) : Nat → List (Nat × (Nat → Value)) → List Rg → List Rg → Prop
 | nil {o : Nat} {L : List Rg} : PartsSet b o [] L L
 | cons {o m : Nat} {f f' : Nat → Value} {ps : List (Nat × (Nat → Value))} {L L' : List Rg} (i : Nat) (h : L[i]? = some ⟨some b, o, m, f, true⟩) (t : PartsSet b (o + m) ps (L.set i ⟨some b, o, m, f', true⟩) L') : PartsSet b o ((m, f') :: ps) L L'
theorem PartsSet.st {B : Nat} {w0 : Base} {b : Nat} {o : Nat} {ps : List (Nat × (Nat → Value))} {L L' : List Rg} (h : PartsSet b o ps L L') : ∀ {w : World}, St B w0 L w → St B w0 L' (w.setCells b o (catL ps)) ∧ w.there b o (catL ps).length := by
 induction h with
 | nil => intro w hst; exact ⟨hst, fun j hj => absurd hj (by simp [catL])⟩
 | @cons o m f f' ps L L' i h t ih =>
   intro w hst
   have h1 : St B w0 (L.set i ⟨some b, o, m, f', true⟩) (w.setCells b o ((List.range m).map f')) := by
     have := hst.setAll (f' := f') h m (Nat.le_refl _)
     exact this.congr_set (fun j hj => by simp [hj])
   obtain ⟨h2, h3⟩ := ih h1
   have hmem := List.mem_of_getElem? h
   refine ⟨?_, fun j hj => ?_⟩
   · rw [catL_cons, setCells_append]
     simpa using h2
   · by_cases hjm : j < m
     · obtain ⟨b', hp, hc⟩ := hst.at_ _ hmem j hjm
       obtain rfl : b = b' := Option.some.inj hp
       obtain ⟨b', hp, hB, hfz⟩ := hst.free _ hmem rfl j hjm
       obtain rfl : b = b' := Option.some.inj hp
       exact ⟨by rw [hc]; rfl, hfz⟩
     · rw [catL_cons] at hj
       have h4 := h3 (j - m) (by simp at hj; omega)
       rw [show o + m + (j - m) = o + j by omega] at h4
       refine ⟨?_, by rw [← World.frozen?_setCells b ((List.range m).map f') o w]; exact h4.2⟩
       have h5 := World.cell?_setCells_out b ((List.range m).map f') o w ⟨b, o + j, none⟩ (fun _ _ => .inr (by simp; omega))
       rw [← h5]; exact h4.1
section step
variable {P : Program} {n : Nat} {K : Pend → Env → World → Prop} {l : List It} {O O' : Pend} {e : Env} {w : World} {i ty : Nat} {d : Tmp} {pos : String} {aft : Array Edge} {gd g : Option (Nat × Bool)}
variable {B : Nat} {w0 : Base} {L L' : List Rg}
theorem Plan.effS {dst : Option Tmp} {op : Op} {v : Value} {w' : World} (hg : wantedE n e g = true) (hr : (execOp (ev n e) ⟨dst, op, ty, pos, aft, gd⟩).run P w = .ok (.value v) w') (hst : St B w0 L' w') (hO : EffO aft O L' O')
   (h : ∀ w', St B w0 L' w' → Plan P n K l O' (updO e dst v) w') : Plan P n K (⟨i, false, ⟨dst, op, ty, pos, aft, gd⟩, g⟩ :: l) O e w := by
 cases hO with
 | keep hp => refine Plan.eff hg ?_; rw [hr]; exact .inl ⟨hp.keep hst, h _ hst⟩
 | wait hw => refine Plan.eff hg ?_; rw [hr]; exact .inr ⟨hw, h _ hst⟩
 | mix O' hf hp => refine Plan.effX hg ?_; rw [hr]; exact ⟨PIn.mix hf hp hst, (show (O.filter fun p => !waitsA aft p.1) = O' from hf) ▸ h _ hst⟩
theorem Plan.effU {dst : Option Tmp} {op : Op} {w' : World} (hg : wantedE n e g = true) (hr : (execOp (ev n e) ⟨dst, op, ty, pos, aft, gd⟩).run P w = .ok .skip w') (hst : St B w0 L' w') (hO : EffO aft O L' O')
   (h : ∀ w', St B w0 L' w' → Plan P n K l O' (updO e dst undef) w') : Plan P n K (⟨i, false, ⟨dst, op, ty, pos, aft, gd⟩, g⟩ :: l) O e w := by
 cases hO with
 | keep hp => refine Plan.eff hg ?_; rw [hr]; exact .inl ⟨hp.keep hst, h _ hst⟩
 | wait hw => refine Plan.eff hg ?_; rw [hr]; exact .inr ⟨hw, h _ hst⟩
 | mix O' hf hp => refine Plan.effX hg ?_; rw [hr]; exact ⟨PIn.mix hf hp hst, (show (O.filter fun p => !waitsA aft p.1) = O' from hf) ▸ h _ hst⟩
def oneP : List (Nat × (Nat → Value)) → Prop
 | [] => True
 | q :: r => (∀ j, j < q.1 → (q.2 j).oneCell' = true) ∧ oneP r
theorem oneP_all : ∀ {ps : List (Nat × (Nat → Value))}, oneP ps → ∀ q ∈ ps, ∀ j, j < q.1 → (q.2 j).oneCell' = true
 | [], _, q, hq => by cases hq
 | _ :: _, h, q, hq => by
   rcases List.mem_cons.1 hq with rfl | hq
   · exact h.1
   · exact oneP_all h.2 q hq
theorem Plan.storeP (hst : St B w0 L w) {t : TypeId} {x y : Operand} {b o : Nat} {ps : List (Nat × (Nat → Value))} (hg : wantedE n e g = true) (hx : ev n e x = .pointer (some ⟨b, o, none⟩)) (hy : ev n e y = AG ps) (hL : PartsSet b o ps L L')
   (hone : oneP ps) (ht : szT P t (ps.map (·.1)).sum = true) (hO : EffO aft O L' O')
   (h : ∀ w', St B w0 L' w' → Plan P n K l O' e w') : Plan P n K (⟨i, false, ⟨none, .store t x y, ty, pos, aft, gd⟩, g⟩ :: l) O e w := by
 obtain ⟨h1, h2⟩ := hL.st hst
 refine Plan.effU hg (w' := w.setCells b o (catL ps)) (run_u ?_) h1 hO h
 rw [hx, hy]
 have hsz : (P.info? t).map (·.size) = some (catL ps).toArray.size := by
   unfold szT at ht
   cases hi : P.info? t with
   | none => rw [hi] at ht; cases ht
   | some i => rw [hi] at ht; simp only [beq_iff_eq] at ht; simp [ht, catL_length]
 refine (run_storeAt_mid w b o t (catL ps).toArray (by simpa using h2) hsz ?_).trans (by simp)
 rw [Array.all_eq_true_iff_forall_mem]
 intro v hv'
 have hv' : v ∈ catL ps := by simpa using hv'
 unfold catL at hv'
 obtain ⟨q, hq, hv'⟩ := List.mem_flatMap.1 hv'
 obtain ⟨j, hj, rfl⟩ := List.mem_map.1 hv'
 exact oneP_all hone q hq j (List.mem_range.1 hj)
theorem run_sliceBound {x : Nat} {y : Nat} {c : BoundsCode} {k : IntKind} (h : x ≤ y) (w : World) : (Instr.sliceBound (.int k (x : Int)) y c).run P w = .ok x w := by
 unfold Instr.sliceBound
 have hc : (0 : Int) ≤ (x : Int) ∧ (x : Int) ≤ (y : Int) := by omega
 simp only [Sem.run_bind, asIntOf, Sem.run_pure, Result.andThen, if_pos hc, Int.toNat_natCast]
theorem Plan.slSl {t : TypeId} {x : Operand} {a : Option Addr} {len cap sz lo hi : Nat} {low high : Option Operand} (ha : slB P t sz = true) (hg : wantedE n e g = true) (hx : ev n e x = .slice a len cap)
   (hlo : match low with | some y => ∃ k, ev n e y = .int k (lo : Int) | none => lo = 0) (hhi : match high with | some y => ∃ k, ev n e y = .int k (hi : Int) | none => hi = len) (hb : lo ≤ hi ∧ hi ≤ cap)
   (h : Plan P n K l O (upd e d (.slice (if cap = lo then a else a.map (·.add (lo * sz))) (hi - lo) (cap - lo))) w) : Plan P n K (⟨i, true, ⟨some d, .slice t x low high none, ty, pos, aft, gd⟩, g⟩ :: l) O e w :=
 Plan.val hg (fun w => run_v (by
   obtain ⟨el, hu, hs⟩ := slB_spec ha
   rw [hx]
   have hbd : (Instr.sliceBounds true len cap (low.map (ev n e)) (high.map (ev n e)) none).run P w = .ok (lo, hi, cap) w := by
     unfold Instr.sliceBounds
     cases low with
     | none =>
       cases high with
       | none =>
         simp only at hlo hhi
         subst hlo hhi
         simp
       | some y =>
         obtain ⟨k, hy⟩ := hhi
         simp only at hlo
         subst hlo
         simp [hy, run_sliceBound hb.2]
     | some z =>
       obtain ⟨k', hz⟩ := hlo
       cases high with
       | none =>
         simp only at hhi
         subst hhi
         simp [hz, run_sliceBound hb.1]
       | some y =>
         obtain ⟨k, hy⟩ := hhi
         simp [hy, hz, run_sliceBound hb.2, run_sliceBound hb.1]
   simp only [Instr.sliceAt, Instr.slice, Sem.run_bind, run_underlying hu w, Result.andThen, Sem.run_pure, Option.map_none, hbd, szT_spec hs])) h
theorem Plan.buildSlice (hst : St B w0 L w) {t : TypeId} {len sz : Nat} {parts : Array (Nat × Operand)} {ps : List (Nat × (Nat → Value))} {vs : List (Nat × Value)} {z : Value} {el : TypeId} (hu : P.underlying t = some (.slice el)) (hs : szT P el sz = true) (hz : (P.info? el).bind (·.zero) = some z)
   (hl : 0 < len * sz) (hl2 : len * sz ≤ 16777216) (hg : wantedE n e g = true)
   (hv : parts.toList.map (fun p => (p.1, ev n e p.2)) = vs) (hf : fillL (fun i => some (i * sz, sz)) ((List.range (len * sz)).map fun i => z.cells[i % z.cells.size]!) vs = some (catL ps)) (hO : EffO aft O L O')
   (h : ∀ b w', B ≤ b → St B w0 (rngs b 0 ps ++ L) w' → Plan P n K l O' (upd e d (.slice (some ⟨b, 0, none⟩) len len)) w') :
   Plan P n K (⟨i, false, ⟨some d, .buildSlice t len parts, ty, pos, aft, gd⟩, g⟩ :: l) O e w := by
 have h' := hst.alloc ps el
 have hr : (execOp (ev n e) ⟨some d, .buildSlice t len parts, ty, pos, aft, gd⟩).run P w = .ok (.value (.slice (some ⟨w.heap.size, 0, none⟩) len len)) (w.alloc (.cells (catL ps).toArray el)) := run_v (by
   have hmap : (parts.map fun (i, x) => (i, ev n e x)).toList = vs := by rw [← hv]; simp
   have hf' := fillL_spec _ _ _ hf
   have hrange : ((Array.range (len * sz)).map (z.cells[· % z.cells.size]!)) = ((List.range (len * sz)).map fun i => z.cells[i % z.cells.size]!).toArray := by
     apply Array.ext'; simp
   simp only [Instr.buildSlice, Sem.run_bind, run_underlying hu w, Result.andThen, szT_spec hs, if_neg (show ¬ len * sz > 2 ^ 24 by omega), Sem.run_pure, if_neg (show ¬ len * sz = 0 by omega), run_zeroValue hz, hmap, hrange, hf', newRow, newObj]
   rfl)
 cases hO with
 | keep hp => refine Plan.eff hg ?_; rw [hr]; exact .inl ⟨(hp.app _ rfl).keep h', h _ _ hst.base h'⟩
 | wait hw => refine Plan.eff hg ?_; rw [hr]; exact .inr ⟨hw, h _ _ hst.base h'⟩
 | mix O' hf hp => refine Plan.effX hg ?_; rw [hr]; exact ⟨PIn.mix hf (hp.app _ rfl) h', (show (O.filter fun p => !waitsA aft p.1) = O' from hf) ▸ h _ _ hst.base h'⟩
end step
end Go.LW
namespace Go.LW
set_option linter.unusedSimpArgs false
set_option linter.unusedVariables false
set_option linter.unusedSectionVars false
open Go Go.RowKit
def spl {α : Type} (f : Nat → α) (j cnt : Nat) (g : Nat → α) : Nat → α := fun q => if j ≤ q ∧ q < j + cnt then g (q - j) else f q
theorem spl_in {α : Type} (f : Nat → α) (j cnt : Nat) (g : Nat → α) (q : Nat) (h : j ≤ q ∧ q < j + cnt) : spl f j cnt g q = g (q - j) := by unfold spl; rw [if_pos h]
theorem spl_out {α : Type} (f : Nat → α) (j cnt : Nat) (g : Nat → α) (q : Nat) (h : ¬ (j ≤ q ∧ q < j + cnt)) : spl f j cnt g q = f q := by unfold spl; rw [if_neg h]
theorem spl_map {α β : Type} (φ : α → β) (f : Nat → α) (j cnt : Nat) (g : Nat → α) : (fun q => φ (spl f j cnt g q)) = spl (fun q => φ (f q)) j cnt (fun q => φ (g q)) := by
 funext q; unfold spl; split <;> rfl
section st
variable {B : Nat} {w0 : Base} {w : World} {L : List Rg}
theorem St.setRange (h : St B w0 L w) {k b off m j : Nat} {f g : Nat → Value} (hL : L[k]? = some ⟨some b, off, m, f, true⟩) :
   ∀ q, j + q ≤ m → St B w0 (L.set k ⟨some b, off, m, spl f j q g, true⟩) (w.setCells b (off + j) ((List.range q).map g))
 | 0, _ => by
   have h1 : spl f j 0 g = f := by funext x; rw [spl_out _ _ _ _ _ (by omega)]
   rw [h1]
   have h2 : L.set k ⟨some b, off, m, f, true⟩ = L := by
     obtain ⟨hk, hLk⟩ := List.getElem?_eq_some_iff.1 hL
     rw [← hLk]; exact List.set_getElem_self hk
   rw [h2]
   exact h
 | q + 1, hq => by
   have ih := St.setRange h (j := j) (g := g) hL q (by omega)
   have hk : k < L.length := (List.getElem?_eq_some_iff.1 hL).1
   have hL' : (L.set k ⟨some b, off, m, spl f j q g, true⟩)[k]? = some ⟨some b, off, m, spl f j q g, true⟩ := by simp [hk]
   have := ih.set (j := j + q) (v := g q) hL' (by omega)
   rw [List.set_set] at this
   have hfun : upd (spl f j q g) (j + q) (g q) = spl f j (q + 1) g := by
     funext x
     simp only [upd_at, spl]
     by_cases h1 : x = j + q
     · subst h1; simp
     · by_cases h2 : j ≤ x ∧ x < j + q
       · rw [if_neg h1, if_pos h2, if_pos (by omega)]
       · rw [if_neg h1, if_neg h2, if_neg (by omega)]
   rw [hfun] at this
   have hcells : (w.setCells b (off + j) ((List.range (q + 1)).map g)) = (w.setCells b (off + j) ((List.range q).map g)).setCell ⟨b, off + (j + q), none⟩ (g q) := by
     rw [List.range_succ, List.map_append, setCells_append]
     simp [World.setCells, Nat.add_assoc]
   rw [hcells]
   exact this
theorem St.thereR (h : St B w0 L w) {k b off m j q : Nat} {f : Nat → Value} (hL : L[k]? = some ⟨some b, off, m, f, true⟩) (hq : j + q ≤ m) : w.there b (off + j) q := fun x hx => by
 have hmem := List.mem_of_getElem? hL
 obtain ⟨b', hp, hc⟩ := h.at_ _ hmem (j + x) (show j + x < m by omega)
 obtain rfl : b = b' := Option.some.inj hp
 obtain ⟨b', hp, hB, hfz⟩ := h.free _ hmem rfl (j + x) (show j + x < m by omega)
 obtain rfl : b = b' := Option.some.inj hp
 rw [Nat.add_assoc]
 exact ⟨by rw [hc]; rfl, hfz⟩
end st
section step
variable {P : Program} {n : Nat} {K : Pend → Env → World → Prop} {l : List It} {O O' : Pend} {e : Env} {w : World} {i ty : Nat} {d : Tmp} {pos : String} {aft : Array Edge} {gd g : Option (Nat × Bool)}
variable {B : Nat} {w0 : Base} {L L' : List Rg}
theorem Plan.storeC (hst : St B w0 L w) {t : TypeId} {x y : Operand} {b off : Nat} {f : Nat → Value} {v : Value} (k : Nat) (hg : wantedE n e g = true) (hx : ev n e x = .pointer (some ⟨b, off, none⟩)) (hy : ev n e y = v) (hL : L[k]? = some ⟨some b, off, 1, f, true⟩)
   (hv : v.oneCell' = true) (ht : szT P t 1 = true) (hO : O.all (fun p => waitsO ⟨none, .store t x y, ty, pos, aft, gd⟩ p.1) = true)
   (h : ∀ w', St B w0 (L.set k ⟨some b, off, 1, fun _ => v, true⟩) w' → Plan P n K l [] e w') : Plan P n K (⟨i, false, ⟨none, .store t x y, ty, pos, aft, gd⟩, g⟩ :: l) O e w :=
 Plan.store0 hst k hg hx hy hL (by omega) hv ht hO fun w' h' => h w' (h'.congr_set (fun j hj => by
   obtain rfl : j = 0 := by omega
   rfl))
theorem Plan.storeC_int (hst : St B w0 L w) {t : TypeId} {x y : Operand} {b off : Nat} {f : Nat → Value} {kd : IntKind} {a : Int} (k : Nat) (hg : wantedE n e g = true) (hx : ev n e x = .pointer (some ⟨b, off, none⟩)) (hy : ev n e y = .int kd a) (hL : L[k]? = some ⟨some b, off, 1, f, true⟩)
   (ht : szT P t 1 = true) (hO : O.all (fun p => waitsO ⟨none, .store t x y, ty, pos, aft, gd⟩ p.1) = true)
   (h : ∀ w', St B w0 (L.set k ⟨some b, off, 1, fun _ => .int kd a, true⟩) w' → Plan P n K l [] e w') : Plan P n K (⟨i, false, ⟨none, .store t x y, ty, pos, aft, gd⟩, g⟩ :: l) O e w :=
 Plan.storeC hst k hg hx hy hL rfl ht hO h
theorem run_blt2 {bt : Builtin} {x y : Operand} {ρ : Operand → Value} {t t' ty : TypeId} {v : Value} {dst : Option Tmp} {w w' : World}
   (h : ∀ cs, (builtin bt #[t, t'] ty cs #[ρ x, ρ y]).run P w = .ok (.value v) w') : (execOp ρ ⟨dst, .call ⟨.builtin bt, #[x, y], #[t, t']⟩, ty, pos, aft, gd⟩).run P w = .ok (.value v) w' := by
 have e1 : Array.map ρ #[x, y] = #[ρ x, ρ y] := by simp
 simp only [execOp, resolve, Sem.run_bind, Sem.run_pure, Result.andThen, invoke, e1]
 exact h _
def SlV (a : Option Addr) (pb : Option Nat) (o len : Nat) : Prop := 0 < len → ∃ b, pb = some b ∧ a = some ⟨b, o, none⟩
theorem run_firstCells {a : Option Addr} {pb : Option Nat} {o len cap cnt off m j : Nat} {f : Nat → Value} {rw : Bool} (hst : St B w0 L w) {k : Nat} (hL : L[k]? = some ⟨pb, off, m, f, rw⟩) (hs : SlV a pb o len) (ho : o = off + j) (hc : cnt ≤ len) (hj : j + cnt ≤ m) :
   (Builtin.firstCells 1 cnt (.slice a len cap)).run P w = .ok ((List.range cnt).map fun q => f (j + q)).toArray w := by
 by_cases h0 : cnt = 0
 · subst h0
   cases a with
   | none => rfl
   | some a => rfl
 · obtain ⟨b, hp, ha⟩ := hs (by omega)
   subst ha
   simp only [Builtin.firstCells, Nat.mul_one]
   refine run_loadCells w ⟨b, o, none⟩ cnt (fun q => f (j + q)) (fun q hq => ?_)
   obtain ⟨b', hp', hcell⟩ := hst.mem hL (j + q) (show j + q < m by omega)
   simp only at hp'
   obtain rfl : b = b' := by rw [hp] at hp'; exact Option.some.inj hp'
   rw [Addr.add_mid, ho, Nat.add_assoc, hcell]
end step
def Bs (L : List Rg) (a : Option Addr) (len cc : Nat) (M : Nat → BitVec 8) : Prop :=
 ∃ (iS offs ms js os : Nat) (ps : Option Nat) (G : Nat → BitVec 8) (rw : Bool), L[iS]? = some ⟨ps, offs, ms, fun q => VU .u8 (G q), rw⟩ ∧ SlV a ps os len ∧ os = offs + js ∧ js + len ≤ ms ∧ len ≤ cc ∧ ∀ q, q < len → M q = G (js + q)
theorem Bs.cons {L : List Rg} {a : Option Addr} {len cc : Nat} {M : Nat → BitVec 8} (h : Bs L a len cc M) (r : Rg) : Bs (r :: L) a len cc M := by
 obtain ⟨iS, offs, ms, js, os, ps, G, rw, h1, h2⟩ := h
 exact ⟨iS + 1, offs, ms, js, os, ps, G, rw, h1, h2⟩
theorem Bs.app {L : List Rg} {a : Option Addr} {len cc : Nat} {M : Nat → BitVec 8} (h : Bs L a len cc M) : ∀ C : List Rg, Bs (C ++ L) a len cc M
 | [] => h
 | r :: C => (Bs.app h C).cons r
theorem Bs.nil (L : List Rg) (M : Nat → BitVec 8) (i : Nat) {r : Rg} {G : Nat → BitVec 8} {ps : Option Nat} {offs ms : Nat} {rw : Bool} (h : L[i]? = some r) (hr : r = ⟨ps, offs, ms, fun q => VU .u8 (G q), rw⟩) : Bs L none 0 0 M :=
 ⟨i, offs, ms, 0, offs, ps, G, rw, by rw [h, hr], fun h => absurd h (by omega), rfl, by omega, Nat.le_refl _, fun q hq => absurd hq (by omega)⟩
theorem Bs.congr {L : List Rg} {a : Option Addr} {len cc : Nat} {M M' : Nat → BitVec 8} (h : Bs L a len cc M) (hm : ∀ q, q < len → M' q = M q) : Bs L a len cc M' := by
 obtain ⟨iS, offs, ms, js, os, ps, G, rw, h1, h2, h3, h4, h5, h6⟩ := h
 exact ⟨iS, offs, ms, js, os, ps, G, rw, h1, h2, h3, h4, h5, fun q hq => by rw [hm q hq]; exact h6 q hq⟩
theorem Bs.slice {L : List Rg} {a : Option Addr} {len cc : Nat} {M : Nat → BitVec 8} (h : Bs L a len cc M) {lo hi : Nat} (hb : lo ≤ hi ∧ hi ≤ len) : Bs L (if cc = lo then a else a.map (·.add (lo * 1))) (hi - lo) (cc - lo) (fun q => M (lo + q)) := by
 obtain ⟨iS, offs, ms, js, os, ps, G, rw, h1, h2, h3, h4, h5, h6⟩ := h
 refine ⟨iS, offs, ms, js + lo, os + lo, ps, G, rw, h1, fun h0 => ?_, by omega, by omega, by omega, fun q hq => by show M (lo + q) = _; rw [h6 _ (by omega), Nat.add_assoc]⟩
 obtain ⟨b, hp, ha⟩ := h2 (by omega)
 refine ⟨b, hp, ?_⟩
 rw [if_neg (by omega), ha, Nat.mul_one]
 simp [Addr.add_mid]
end Go.LW
namespace Go.LW
set_option linter.unusedSimpArgs false
set_option linter.unusedVariables false
set_option linter.unusedSectionVars false
open Go Go.RowKit
def elB (P : Program) (t : TypeId) (s by' : Nat) (z : Value) : Prop := ∃ el i, P.underlying t = some (.slice el) ∧ P.info? el = some i ∧ i.size = s ∧ i.bytes = by' ∧ i.zero = some z
def elD (P : Program) (t : TypeId) : Option (Nat × Nat × Option Value) := match P.underlying t with
 | some (.slice el) => (P.info? el).map fun i => (i.size, i.bytes, i.zero)
 | _ => none
theorem elB_of {P : Program} {t : TypeId} {s by' : Nat} {z : Value} (h : elD P t = some (s, by', some z)) : elB P t s by' z := by
 unfold elD at h
 cases hu : P.underlying t with
 | none => rw [hu] at h; cases h
 | some dsc =>
   rw [hu] at h
   cases dsc <;> try (cases h; done)
   rename_i el
   simp only at h
   cases hi : P.info? el with
   | none => rw [hi] at h; cases h
   | some i =>
     rw [hi] at h
     simp only [Option.map_some, Option.some.injEq, Prod.mk.injEq] at h
     exact ⟨el, i, hu, hi, h.1, h.2.1, h.2.2⟩
def OwnSl (a : Option Addr) (pb : Option Nat) (cap : Nat) : Prop := (cap = 0 ∧ a = none ∧ pb = none) ∨ ∃ b, pb = some b ∧ a = some ⟨b, 0, none⟩
theorem OwnSl.sl {a : Option Addr} {pb : Option Nat} {cap len : Nat} (h : OwnSl a pb cap) (hl : len ≤ cap) : SlV a pb 0 len := fun h0 => by
 rcases h with ⟨h1, _⟩ | ⟨b, h1, h2⟩
 · omega
 · exact ⟨b, h1, h2⟩
section st
variable {B : Nat} {w0 : Base} {w : World} {L : List Rg}
theorem St.nilE (h : St B w0 L w) (f : Nat → Value) : St B w0 (⟨none, 0, 0, f, true⟩ :: L) w :=
 h.cons (fun j hj => absurd hj (by simp)) (fun _ j hj => absurd hj (by simp)) (fun s _ _ => .inr (.inr (.inr (.inl rfl))))
theorem St.instead {r : Rg} (h : St B w0 (r :: L) w) {k : Nat} (_hk : k < L.length) : St B w0 (L.set k r) w := by
 have hap := List.pairwise_cons.1 h.apart
 refine ⟨h.below, h.base, fun s hs => ?_, fun s hs => ?_, ?_⟩
 · rcases List.mem_or_eq_of_mem_set hs with hs | rfl
   · exact h.at_ s (List.mem_cons_of_mem _ hs)
   · exact h.at_ _ List.mem_cons_self
 · rcases List.mem_or_eq_of_mem_set hs with hs | rfl
   · exact h.free s (List.mem_cons_of_mem _ hs)
   · exact h.free _ List.mem_cons_self
 · rw [List.pairwise_iff_getElem]
   intro x y hx hy hxy
   have hx' : x < L.length := by simpa using hx
   have hy' : y < L.length := by simpa using hy
   rw [List.getElem_set, List.getElem_set]
   by_cases h1 : k = x
   · rw [if_pos h1, if_neg (by omega)]
     exact hap.1 _ (List.getElem_mem hy')
   · rw [if_neg h1]
     by_cases h2 : k = y
     · rw [if_pos h2]
       exact (hap.1 _ (List.getElem_mem hx')).symm
     · rw [if_neg h2]
       exact List.pairwise_iff_getElem.1 hap.2 x y hx' hy' hxy
end st
section run
variable {P : Program} {B : Nat} {w0 : Base} {w : World} {L : List Rg}
theorem catL_one (m : Nat) (f : Nat → Value) : catL [(m, f)] = (List.range m).map f := by simp [catL]
theorem run_appendS (hst : St B w0 L w) {t t' ty : TypeId} {s by' len cap n k : Nat} {z : Value} {zf : Nat → Value} {a : Option Addr} {pb : Option Nat} {F g : Nat → Value} {y : Value} (he : elB P t s by' z) (hzs : z.cells.size = s) (hzf : ∀ q, q < s → z.cells[q]! = zf q) (hL : L[k]? = some ⟨pb, 0, cap * s, F, true⟩) (ho : OwnSl a pb cap)
   (hsrc : Src P s t' y n ((List.range (n * s)).map g) w) (hlc : len ≤ cap) (hb : (len + n) * by' ≤ 140737488355328) (h63 : len + n < 9223372036854775808) :
   ∃ w' a' pb' cap' ip, (Builtin.append_ #[t, t'] ty #[.slice a len cap, y]).run P w = .ok (.slice a' (len + n) cap') w' ∧ OwnSl a' pb' cap' ∧ len + n ≤ cap' ∧ St B w0 (L.set k ⟨pb', 0, cap' * s, fun q => if ip = true ∨ q < (len + n) * s then spl F (len * s) (n * s) g q else zf (q % s), true⟩) w' := by
 obtain ⟨el, i, hu, hi, hs1, hby, hz⟩ := he
 subst hs1
 have hk : k < L.length := (List.getElem?_eq_some_iff.1 hL).1
 have hfun : (fun q => if true = true ∨ q < (len + n) * i.size then spl F (len * i.size) (n * i.size) g q else zf (q % i.size)) = spl F (len * i.size) (n * i.size) g := by funext q; rw [if_pos (.inl rfl)]
 by_cases hroom : len + n ≤ cap
 · by_cases h0 : n = 0
   · subst h0
     refine ⟨w, a, pb, cap, true, run_append_nothing w t t' ty el i hu hi a len cap hlc y (by simpa using hsrc), ho, hroom, ?_⟩
     rw [hfun]
     have h1 : spl F (len * i.size) (0 * i.size) g = F := by rw [Nat.zero_mul]; funext q; rw [spl_out _ _ _ _ _ (by omega)]
     rw [h1]
     have h2 : L.set k ⟨pb, 0, cap * i.size, F, true⟩ = L := by
       obtain ⟨hk, hLk⟩ := List.getElem?_eq_some_iff.1 hL
       rw [← hLk]; exact List.set_getElem_self hk
     rw [h2]; exact hst
   · obtain ⟨b, hpb, ha⟩ : ∃ b, pb = some b ∧ a = some ⟨b, 0, none⟩ := by
       rcases ho with ⟨h1, _⟩ | h1
       · omega
       · exact h1
     subst hpb ha
     have hfit : len * i.size + n * i.size ≤ cap * i.size := by rw [← Nat.add_mul]; exact Nat.mul_le_mul_right _ hroom
     have hth := hst.thereR hL hfit
     refine ⟨_, some ⟨b, 0, none⟩, some b, cap, true, run_append_room_src w t t' ty el i hu hi b 0 len cap y n _ hsrc hroom (fun j hj => (hth j (by simpa using hj)).1) (fun j hj => (hth j (by simpa using hj)).2), .inr ⟨b, rfl, rfl⟩, hroom, ?_⟩
     rw [hfun]
     exact hst.setRange hL (n * i.size) hfit
 · have hcap := grownCap_ge w (len + n) cap el
   have hold : (Builtin.firstCells i.size len (.slice a len cap)).run P w.drew = .ok ((List.range (len * i.size)).map F).toArray w.drew := by
     by_cases h0 : len = 0
     · subst h0
       cases a with
       | none => simp [Builtin.firstCells]
       | some a => simp [Builtin.firstCells, loadCells]; rfl
     · obtain ⟨b, hpb, ha⟩ : ∃ b, pb = some b ∧ a = some ⟨b, 0, none⟩ := by
         rcases ho with ⟨h1, _⟩ | h1
         · omega
         · exact h1
       subst hpb ha
       simp only [Builtin.firstCells]
       refine run_loadCells w.drew ⟨b, 0, none⟩ (len * i.size) F (fun q hq => ?_)
       have hfit : len * i.size ≤ cap * i.size := Nat.mul_le_mul_right _ hlc
       obtain ⟨b', hp', hcell⟩ := hst.drew.mem hL q (show q < cap * i.size by omega)
       obtain rfl : b = b' := Option.some.inj hp'
       rw [Addr.add_mid]
       exact hcell
   have hfit := growslice_fits (need := len + n) (old := cap) (bytes := i.bytes) (by omega) (by rw [hby]; exact hb)
   have hr := run_append_grow_src (P := P) w t t' ty el i z hu hi hz a len cap _ hold y n _ hsrc (by omega) (by omega) hfit
   have hcm : (len + n) * i.size + (grownCap w (len + n) cap el - (len + n)) * i.size = grownCap w (len + n) cap el * i.size := by rw [← Nat.add_mul]; congr 1; omega
   have hln : (len + n) * i.size = len * i.size + n * i.size := Nat.add_mul _ _ _
   have hcat : (catL [(grownCap w (len + n) cap el * i.size, fun q => if false = true ∨ q < (len + n) * i.size then spl F (len * i.size) (n * i.size) g q else zf (q % i.size))]).toArray = ((List.range (len * i.size)).map F ++ (List.range (n * i.size)).map g).toArray ++ Builtin.zeroCells z.cells (grownCap w (len + n) cap el - (len + n)) := by
     apply Array.ext'
     apply List.ext_getElem?
     intro q
     rw [catL_one]
     have hzc : (Builtin.zeroCells z.cells (grownCap w (len + n) cap el - (len + n))).toList = (List.range ((grownCap w (len + n) cap el - (len + n)) * i.size)).map fun x => zf (x % i.size) := by
       unfold Builtin.zeroCells
       rw [hzs]
       simp only [Array.toList_map, Array.toList_range]
       refine List.map_congr_left fun x hx => ?_
       have hx := List.mem_range.1 hx
       have hpos : 0 < i.size := by
         rcases Nat.eq_zero_or_pos i.size with h0 | h0
         · rw [h0] at hx; omega
         · exact h0
       exact hzf _ (Nat.mod_lt _ hpos)
     simp only [Array.toList_append, hzc]
     by_cases h1 : q < len * i.size
     · rw [List.append_assoc, List.getElem?_append_left (by simpa using h1)]
       simp [show q < grownCap w (len + n) cap el * i.size by omega, h1, show q < (len + n) * i.size by omega, spl, show ¬ (len * i.size ≤ q ∧ q < len * i.size + n * i.size) by omega]
     · rw [List.append_assoc, List.getElem?_append_right (by simpa using h1)]
       by_cases h2 : q < (len + n) * i.size
       · rw [List.getElem?_append_left (by simp; omega)]
         simp [show q < grownCap w (len + n) cap el * i.size by omega, h2, spl, show len * i.size ≤ q ∧ q < len * i.size + n * i.size by omega, show q - len * i.size < n * i.size by omega]
       · rw [List.getElem?_append_right (by simp; omega)]
         by_cases h3 : q < grownCap w (len + n) cap el * i.size
         · have h4 : (q - len * i.size - n * i.size) % i.size = q % i.size := by
             have h5 : q = (q - len * i.size - n * i.size) + i.size * (len + n) := by rw [Nat.mul_comm i.size, hln]; omega
             conv => rhs; rw [h5]
             rw [Nat.add_mul_mod_self_left]
           simp [h3, h2, show q - len * i.size - n * i.size < (grownCap w (len + n) cap el - (len + n)) * i.size by omega, h4]
         · simp [h3, show ¬ (q - len * i.size - n * i.size < (grownCap w (len + n) cap el - (len + n)) * i.size) by omega]
   rw [← hcat] at hr
   refine ⟨_, some ⟨w.heap.size, 0, none⟩, some w.heap.size, grownCap w (len + n) cap el, false, hr, .inr ⟨_, rfl, rfl⟩, hcap, ?_⟩
   have := hst.drew.alloc [(grownCap w (len + n) cap el * i.size, fun q => if false = true ∨ q < (len + n) * i.size then spl F (len * i.size) (n * i.size) g q else zf (q % i.size))] el
   exact St.instead this hk
theorem Src.ofL (hst : St B w0 L w) {t' e' : TypeId} (hk : P.underlying t' = some (.slice e')) {a : Option Addr} {ps : Option Nat} {os len cap offs ms js ks : Nat} {G : Nat → Value} {rw : Bool} (hL : L[ks]? = some ⟨ps, offs, ms, G, rw⟩) (hs : SlV a ps os len) (ho : os = offs + js) (hj : js + len ≤ ms) (h1 : ∀ q, q < len → (G (js + q)).oneCell' = true) :
   Src P 1 t' (.slice a len cap) len ((List.range (len * 1)).map fun q => G (js + q)) w :=
 ⟨.inl ⟨e', hk⟩, fun _ => rfl, by rw [Nat.mul_one]; exact run_firstCells hst hL hs ho (Nat.le_refl _) hj, by rw [Nat.mul_one]; exact run_firstCells hst.drew hL hs ho (Nat.le_refl _) hj, by simp, fun u hu => by
   obtain ⟨q, hq, rfl⟩ := List.mem_map.1 hu
   exact h1 q (by simpa using hq)⟩
end run
section step
variable {P : Program} {n : Nat} {K : Pend → Env → World → Prop} {l : List It} {O O' : Pend} {e : Env} {w : World} {i ty : Nat} {d : Tmp} {pos : String} {aft : Array Edge} {gd g : Option (Nat × Bool)}
variable {B : Nat} {w0 : Base} {L L' : List Rg}
theorem Plan.appendU (hst : St B w0 L w) {t t' : TypeId} {x y : Operand} {s by' len cap m : Nat} {kd : IntKind} {a : Option Addr} {pb : Option Nat} {F G : Nat → BitVec s} {v : Value} (k : Nat) (he : elD P t = some (1, by', some (VU kd 0#s))) (hg : wantedE n e g = true)
   (hx : ev n e x = .slice a len cap) (hy : ev n e y = v) (hL : L[k]? = some ⟨pb, 0, cap, fun q => VU kd (F q), true⟩) (ho : OwnSl a pb cap) (hsrc : Src P 1 t' v m ((List.range (m * 1)).map fun q => VU kd (G q)) w) (hlc : len ≤ cap) (hb : (len + m) * by' ≤ 140737488355328) (h63 : len + m < 9223372036854775808)
   (hO : ∀ r, EffO aft O (L.set k r) O')
   (h : ∀ a' pb' cap' (F' : Nat → BitVec s) w', OwnSl a' pb' cap' → len + m ≤ cap' → (∀ q, q < len + m → F' q = spl F len m G q) → St B w0 (L.set k ⟨pb', 0, cap', fun q => VU kd (F' q), true⟩) w' → Plan P n K l O' (updO e (some d) (.slice a' (len + m) cap')) w') :
   Plan P n K (⟨i, false, ⟨some d, .call ⟨.builtin .append, #[x, y], #[t, t']⟩, ty, pos, aft, gd⟩, g⟩ :: l) O e w := by
 obtain ⟨w', a', pb', cap', ip, hr, ho', hcap, hst'⟩ := run_appendS (P := P) (ty := ty) (s := 1) (zf := fun _ => VU kd 0#s) hst (elB_of he) rfl (fun q hq => by cases Nat.lt_one_iff.1 hq; rfl) (by rw [Nat.mul_one]; exact hL) ho hsrc hlc hb h63
 have hfun : (fun q => if ip = true ∨ q < (len + m) * 1 then spl (fun q => VU kd (F q)) (len * 1) (m * 1) (fun q => VU kd (G q)) q else VU kd 0#s) = fun q => VU kd (if ip = true ∨ q < len + m then spl F len m G q else 0#s) := by
   funext q
   simp only [Nat.mul_one, ← spl_map]
   split <;> rfl
 rw [hfun, Nat.mul_one] at hst'
 refine Plan.effS hg (w' := w') (v := .slice a' (len + m) cap') (run_blt2 fun c => ?_) hst' (hO _) fun w' hw' => h a' pb' cap' _ w' ho' hcap (fun q hq => ?_) hw'
 · rw [hx, hy]
   simp only [builtin, Sem.run_bind, hr]
   rfl
 · rw [if_pos (.inr hq)]
end step
end Go.LW
namespace Go.LW
set_option linter.unusedSimpArgs false
set_option linter.unusedVariables false
set_option linter.unusedSectionVars false
open Go Go.RowKit
def arrIB (P : Program) (t n : Nat) (kd : IntKind) : Bool := match P.underlying t with
 | some (.array m el) => m == n && (match P.info? el with | some i => i.size == 1 | none => false) && (match P.underlying el with | some (.int k) => k == kd | _ => false) && !P.eqGuardType P.depth t
 | _ => false
section run
variable {P : Program}
end run
section step
variable {P : Program} {n : Nat} {K : Pend → Env → World → Prop} {l : List It} {O O' : Pend} {e : Env} {w : World} {i ty : Nat} {d : Tmp} {pos : String} {aft : Array Edge} {gd g : Option (Nat × Bool)}
section arr
variable {t yt : TypeId} {x y : Operand} {s m : Nat} {kd : IntKind} {F G : Nat → BitVec s} (ha : arrIB P t m kd = true) (hg : wantedE n e g = true) (hx : ev n e x = AG [(m, fun q => VU kd (F q))]) (hy : ev n e y = AG [(m, fun q => VU kd (G q))])
include ha hg hx hy
end arr
def ptrB (P : Program) (t : Nat) : Bool := match P.underlying t with | some (.pointer _) => true | _ => false
theorem ptrB_spec {P : Program} {t : Nat} (h : ptrB P t = true) : P.underlying t = some (.pointer (P.pointee t)) := by
 unfold ptrB at h
 cases hu : P.underlying t with
 | none => rw [hu] at h; cases h
 | some dsc => rw [hu] at h; cases dsc <;> first | (cases h; done) | (simp [Program.pointee, hu])
theorem Plan.eqNil {t yt : TypeId} {x y : Operand} {p : Option Addr} {b : Bool} (ht : ptrB P t = true) (hg : wantedE n e g = true) (hx : ev n e x = .pointer p) (hy : ev n e y = .pointer none) (hb : p.isNone = b)
   (h : Plan P n K l O (upd e d (.bool b)) w) : Plan P n K (⟨i, true, ⟨some d, .binOp .eql t x y yt, ty, pos, aft, gd⟩, g⟩ :: l) O e w :=
 Plan.val hg (fun w => run_v (by
   rw [hx, hy, Sem.run_bind]
   have h1 : (eqGuard .eql t x y (.pointer p) (.pointer none)).run P w = .ok () w := rfl
   rw [h1, ← hb]
   exact run_eql_pointer_nil w t p (ptrB_spec ht))) h
end step
def lit {s : Nat} (l : List (BitVec s)) (q : Nat) : BitVec s := l.getD q 0#s
theorem Bs.le {L : List Rg} {a : Option Addr} {len cc : Nat} {M : Nat → BitVec 8} (h : Bs L a len cc M) : len ≤ cc := by
 obtain ⟨_, _, _, _, _, _, _, _, _, _, _, _, h5, _⟩ := h; exact h5
theorem OwnSl.pos {a : Option Addr} {pb : Option Nat} {cap : Nat} (h : OwnSl a pb cap) (hc : 0 < cap) : ∃ b, pb = some b ∧ a = some ⟨b, 0, none⟩ := by
 rcases h with ⟨h1, _⟩ | h1
 · omega
 · exact h1
theorem slB_u {P : Program} {t sz : Nat} (h : slB P t sz = true) : ∃ el, P.underlying t = some (.slice el) := by
 obtain ⟨el, hu, _⟩ := slB_spec h
 exact ⟨el, hu⟩
theorem Src.ofBs {P : Program} {B : Nat} {w0 : Base} {w : World} {L : List Rg} (hst : St B w0 L w) {t' sz : TypeId} (hk : slB P t' sz = true) {a : Option Addr} {len cc : Nat} {M : Nat → BitVec 8} (hb : Bs L a len cc M) : Src P 1 t' (.slice a len cc) len ((List.range (len * 1)).map fun q => VU .u8 (M q)) w := by
 obtain ⟨iS, offs, ms, js, os, ps, G, rw, h1, h2, h3, h4, h5, h6⟩ := hb
 obtain ⟨el, hu⟩ := slB_u hk
 have := Src.ofL (P := P) (cap := cc) hst hu h1 h2 h3 h4 (fun _ _ => rfl)
 have hm : (List.range (len * 1)).map (fun q => VU .u8 (M q)) = (List.range (len * 1)).map (fun q => VU .u8 (G (js + q))) := List.map_congr_left fun q hq => by
   have := List.mem_range.1 hq
   rw [h6 q (by omega)]
 rw [hm]; exact this
theorem St.ownNil {B : Nat} {w0 : Base} {w : World} {L : List Rg} (h : St B w0 L w) : St B w0 (⟨none, 0, 0, fun _ => VU .u8 0#8, true⟩ :: L) w := h.nilE _
theorem OwnSl.nil : OwnSl none none 0 := .inl ⟨rfl, rfl, rfl⟩
end Go.LW
namespace Go.LW
set_option linter.unusedSimpArgs false
set_option linter.unusedVariables false
set_option linter.unusedSectionVars false
open Go Go.RowKit
def IsRow (k : IntKind) (w : World) (a : Option Addr) (len cap : Nat) (zs : List Int) : Prop :=
 (a = none ∧ len = 0 ∧ cap = 0 ∧ zs = []) ∨
 ∃ x, a = some x ∧ len ≤ cap ∧ cap ≤ maxLen ∧ zs.length = cap ∧ (∀ i, i < zs.length → w.cell? (x.add i) = some (.int k (zs.getD i 0))) ∧ ∀ n ∈ zs, (Lit.int k n).wf = true
theorem IsRow.le {k : IntKind} {w : World} {a : Option Addr} {len cap : Nat} {zs : List Int} (h : IsRow k w a len cap zs) : len ≤ cap ∧ cap ≤ maxLen := by
 rcases h with ⟨_, rfl, rfl, _⟩ | ⟨x, _, h1, h2, _⟩
 · exact ⟨Nat.le_refl _, by decide⟩
 · exact ⟨h1, h2⟩
theorem maxLen_val : maxLen = 9223372036854775807 ∨ maxLen < 9223372036854775807 := by decide
theorem cell_spot {w : World} {x : Addr} {v : Value} (h : w.cell? x = some v) : x.spot = none := by
 unfold World.cell? at h
 cases hs : x.spot with
 | none => rfl
 | some s =>
   rw [hs] at h
   split at h
   · simp at h
   · cases h
theorem IsRow.rg {k : IntKind} {w : World} {a : Option Addr} {len cap : Nat} {zs : List Int} (h : IsRow k w a len cap zs) : ∃ (p : Option Nat) (off : Nat), (Rg.mk p off cap (fun q => .int k (zs.getD q 0)) false).at w ∧ SlV a p off len := by
 rcases h with ⟨rfl, rfl, rfl, rfl⟩ | ⟨x, rfl, h1, h2, h3, h4, h5⟩
 · exact ⟨none, 0, fun j hj => absurd hj (by simp), fun h => absurd h (by omega)⟩
 · by_cases h0 : cap = 0
   · exact ⟨none, 0, fun j hj => absurd hj (by simp; omega), fun h => absurd h (by omega)⟩
   · have hx := cell_spot (by have := h4 0 (by omega); rwa [Addr.add_zero'] at this)
     obtain ⟨b, o, s⟩ := x
     simp only at hx
     subst hx
     refine ⟨some b, o, fun j hj => ⟨b, rfl, ?_⟩, fun _ => ⟨b, rfl, rfl⟩⟩
     have := h4 j (by rw [h3]; exact hj)
     rwa [Addr.add_mid] at this
def roL (L : List Rg) : Prop := ∀ s ∈ L, s.rw = false
theorem roL.nil : roL [] := fun s hs => by cases hs
theorem roL.cons {r : Rg} {L : List Rg} (h : roL L) (hr : r.rw = false) : roL (r :: L) := fun s hs => by
 rcases List.mem_cons.1 hs with rfl | hs
 · exact hr
 · exact h s hs
section st
variable {B : Nat} {w0 : Base} {w : World} {L : List Rg}
theorem St.roC (h : St B w0 L w) (hr : roL L) {p : Option Nat} {off n : Nat} {f : Nat → Value} (ha : (Rg.mk p off n f false).at w) : St B w0 (⟨p, off, n, f, false⟩ :: L) w ∧ roL (⟨p, off, n, f, false⟩ :: L) :=
 ⟨h.ro ha (fun s hs hw => by rw [hr s hs] at hw; cases hw), hr.cons rfl⟩
theorem Rg.congr_at {p : Option Nat} {off n : Nat} {f g : Nat → Value} {rw : Bool} {w : World} (h : (Rg.mk p off n f rw).at w) (hfg : ∀ j, j < n → f j = g j) : (Rg.mk p off n g rw).at w := fun j hj => by
 obtain ⟨b, h1, h2⟩ := h j hj
 exact ⟨b, h1, by rw [h2]; exact congrArg some (hfg j hj)⟩
theorem wf_u8 {n : Int} (h : (Lit.int .u8 n).wf = true) : 0 ≤ n ∧ n < 256 := by
 simp [Lit.wf, IntKind.min, IntKind.max, IntKind.signed, IntKind.bits] at h
 omega
theorem IsRow.bytes {a : Option Addr} {len cap : Nat} {zs : List Int} (hz : IsRow .u8 w a len cap zs) (h : St B w0 L w) (hr : roL L) : ∃ r : Rg, St B w0 (r :: L) w ∧ roL (r :: L) ∧ Bs (r :: L) a len cap (fun q => BitVec.ofInt 8 (zs.getD q 0)) := by
 obtain ⟨p, off, h1, h2⟩ := hz.rg
 have h3 : (Rg.mk p off cap (fun q => VU .u8 (BitVec.ofInt 8 (zs.getD q 0))) false).at w := Rg.congr_at h1 fun j hj => by
   have hw : 0 ≤ zs.getD j 0 ∧ zs.getD j 0 < 256 := by
     rcases hz with ⟨_, _, rfl, _⟩ | ⟨x, _, _, _, hl, _, hwf⟩
     · exact absurd hj (by omega)
     · have : zs.getD j 0 ∈ zs := by
         rw [List.getD_eq_getElem?_getD, List.getElem?_eq_getElem (by omega)]
         exact List.getElem_mem _
       exact wf_u8 (hwf _ this)
   show Value.int .u8 _ = Value.int .u8 _
   congr 1
   rw [BitVec.toNat_ofInt]
   omega
 obtain ⟨h4, h5⟩ := h.roC hr h3
 exact ⟨_, h4, h5, 0, off, cap, 0, off, p, _, false, rfl, h2, rfl, by have := hz.le; omega, hz.le.1, fun q _ => by rw [Nat.zero_add]⟩
def Is (L : List Rg) (a : Option Addr) (len : Nat) (z : List Int) : Prop :=
 ∃ (i : Nat) (p : Option Nat) (o m : Nat), L[i]? = some ⟨p, o, m, fun q => .int .i64 (z.getD q 0), false⟩ ∧ SlV a p o len ∧ len ≤ m ∧ len < 9223372036854775808 ∧ ∀ q, q < len → -9223372036854775808 ≤ z.getD q 0 ∧ z.getD q 0 ≤ 9223372036854775807
theorem Is.app {a : Option Addr} {len : Nat} {z : List Int} (h : Is L a len z) (C : List Rg) : Is (C ++ L) a len z := by
 obtain ⟨i, p, o, m, h1, h2⟩ := h
 exact ⟨C.length + i, p, o, m, by rw [List.getElem?_append_right (Nat.le_add_right _ _), Nat.add_sub_cancel_left]; exact h1, h2⟩
end st
end Go.LW
namespace Go.LW
set_option linter.unusedSimpArgs false
set_option linter.unusedVariables false
set_option linter.unusedSectionVars false
open Go Go.RowKit
abbrev Byte := BitVec 8
theorem lit_range {s n : Nat} (M : Nat → BitVec s) : ∀ q, q < n → lit ((List.range n).map M) q = M q := fun q hq => by
 unfold lit; simp [List.getD_eq_getElem?_getD, hq]
theorem lit_app {s : Nat} (X Y : List (BitVec s)) (q : Nat) : lit (X ++ Y) q = if q < X.length then lit X q else lit Y (q - X.length) := by
 unfold lit
 rw [List.getD_eq_getElem?_getD, List.getElem?_append]
 split <;> rw [List.getD_eq_getElem?_getD]
def seg {α : Type} (X : List α) (lo hi : Nat) : List α := (X.take hi).drop lo
theorem seg_length {α : Type} {X : List α} {lo hi : Nat} (h : hi ≤ X.length) : (seg X lo hi).length = hi - lo := by
 unfold seg; simp; omega
theorem lit_seg {s : Nat} {X : List (BitVec s)} {lo hi q : Nat} (h : hi ≤ X.length) (hq : q < hi - lo) : lit (seg X lo hi) q = lit X (lo + q) := by
 unfold lit seg
 simp [List.getD_eq_getElem?_getD, List.getElem?_drop, List.getElem?_take, show lo + q < hi by omega]
theorem seg_zero {α : Type} (X : List α) (n : Nat) : seg X 0 n = X.take n := by unfold seg; simp
theorem Bs.list {L : List Rg} {a : Option Addr} {len cc : Nat} {M : Nat → Byte} (h : Bs L a len cc M) : ∃ X : List Byte, X.length = len ∧ Bs L a len cc (lit X) :=
 ⟨(List.range len).map M, by simp, h.congr fun q hq => lit_range M q hq⟩
theorem Bs.seg {L : List Rg} {a : Option Addr} {len cc : Nat} {X : List Byte} (h : Bs L a len cc (lit X)) (hl : X.length = len) {lo hi : Nat} (hb : lo ≤ hi ∧ hi ≤ len) : Bs L (if cc = lo then a else a.map (·.add (lo * 1))) (hi - lo) (cc - lo) (lit (seg X lo hi)) :=
 (h.slice hb).congr fun q hq => lit_seg (by omega) hq
theorem Bs.take {L : List Rg} {a : Option Addr} {len cc : Nat} {X : List Byte} (h : Bs L a len cc (lit X)) (hl : X.length = len) {n : Nat} (hn : n ≤ len) : Bs L a n cc (lit (X.take n)) := by
 obtain ⟨iS, offs, ms, js, os, ps, G, rw, h1, h2, h3, h4, h5, h6⟩ := h
 refine ⟨iS, offs, ms, js, os, ps, G, rw, h1, fun h0 => h2 (by omega), h3, by omega, by omega, fun q hq => ?_⟩
 rw [← h6 q (by omega), ← seg_zero, lit_seg (by omega) (by omega), Nat.zero_add]
section step
variable {P : Program} {n : Nat} {K : Pend → Env → World → Prop} {l : List It} {O O' : Pend} {e : Env} {w : World} {i ty : Nat} {d : Tmp} {pos : String} {aft : Array Edge} {gd g : Option (Nat × Bool)}
variable {B : Nat} {w0 : Base} {L L' : List Rg}
theorem Plan.appendL (hst : St B w0 L w) {t t' sz : TypeId} {x y : Operand} {len cap m cy : Nat} {a ay : Option Addr} {pb : Option Nat} {F : Nat → Byte} {X Y : List Byte} (k : Nat) (he : elD P t = some (1, 1, some (VU .u8 0#8))) (ht' : slB P t' sz = true) (hg : wantedE n e g = true)
   (hx : ev n e x = .slice a len cap) (hy : ev n e y = .slice ay m cy) (hL : L[k]? = some ⟨pb, 0, cap, fun q => VU .u8 (F q), true⟩) (ho : OwnSl a pb cap) (hlc : len ≤ cap) (hX : X.length = len) (hF : ∀ q, q < len → lit X q = F q) (hY : Bs L ay m cy (lit Y)) (hYl : Y.length = m) (hb : len + m ≤ 140737488355328)
   (hO : ∀ r, EffO aft O (L.set k r) O')
   (h : ∀ a' pb' cap' (F' : Nat → Byte) w', OwnSl a' pb' cap' → (X ++ Y).length ≤ cap' → (∀ q, q < (X ++ Y).length → lit (X ++ Y) q = F' q) → St B w0 (L.set k ⟨pb', 0, cap', fun q => VU .u8 (F' q), true⟩) w' → Plan P n K l O' (updO e (some d) (.slice a' (X ++ Y).length cap')) w') :
   Plan P n K (⟨i, false, ⟨some d, .call ⟨.builtin .append, #[x, y], #[t, t']⟩, ty, pos, aft, gd⟩, g⟩ :: l) O e w := by
 subst hX hYl
 refine Plan.appendU hst k he hg hx hy hL ho (Src.ofBs hst ht' hY) hlc (by omega) (by omega) hO fun a' pb' cap' F' w' ho' hc hF' hst' => ?_
 have hlen : X.length + Y.length = (X ++ Y).length := List.length_append.symm
 rw [hlen] at hF' hc
 rw [hlen]
 refine h a' pb' cap' F' w' ho' hc (fun q hq => ?_) hst'
 rw [hF' q hq, lit_app]
 split
 · rw [spl_out _ _ _ _ _ (by omega)]; exact hF q (by omega)
 · rw [spl_in _ _ _ _ _ (by omega)]
end step
end Go.LW
namespace Go.LW
set_option linter.unusedSimpArgs false
set_option linter.unusedVariables false
set_option linter.unusedSectionVars false
open Go Go.RowKit
def strL (X : List Byte) : ByteArray := strOfNums (X.map fun b => (b.toNat : Int))
theorem list_map_inj {α β : Type} {f : α → β} (hf : ∀ a b, f a = f b → a = b) : ∀ {X Y : List α}, X.map f = Y.map f → X = Y
 | [], [], _ => rfl
 | [], _ :: _, h => by cases h
 | _ :: _, [], h => by cases h
 | a :: X, b :: Y, h => by
   simp only [List.map_cons, List.cons.injEq] at h
   rw [hf a b h.1, list_map_inj hf h.2]
theorem strL_inj {X Y : List Byte} : strL X = strL Y ↔ X = Y := by
 constructor
 · intro h
   have h1 : (strL X).data.toList = (strL Y).data.toList := by rw [h]
   unfold strL at h1
   rw [strOfNums_data, strOfNums_data, List.map_map, List.map_map] at h1
   refine list_map_inj ?_ h1
   intro a b hab
   have h2 : (UInt8.ofNat a.toNat).toNat = (UInt8.ofNat b.toNat).toNat := congrArg UInt8.toNat hab
   have ha := a.isLt
   have hb := b.isLt
   simp at h2
   exact BitVec.eq_of_toNat_eq (by omega)
 · rintro rfl; rfl
section step
variable {P : Program} {n : Nat} {K : Pend → Env → World → Prop} {l : List It} {O O' : Pend} {e : Env} {w : World} {i ty : Nat} {d : Tmp} {pos : String} {aft : Array Edge} {gd g : Option (Nat × Bool)}
variable {B : Nat} {w0 : Base} {L L' : List Rg}
theorem run_blt2s {bt : Builtin} {x y : Operand} {ρ : Operand → Value} {at' : Array TypeId} {ty : TypeId} {v : Value} {dst : Option Tmp} {w w' : World}
   (h : ∀ cs, (builtin bt at' ty cs #[ρ x, ρ y]).run P w = .ok (.value v) w') : (execOp ρ ⟨dst, .call ⟨.builtin bt, #[x, y], at'⟩, ty, pos, aft, gd⟩).run P w = .ok (.value v) w' := by
 have e1 : Array.map ρ #[x, y] = #[ρ x, ρ y] := by simp
 simp only [execOp, resolve, Sem.run_bind, Sem.run_pure, Result.andThen, invoke, e1]
 exact h _
theorem Plan.minN {at' : Array TypeId} {x y : Operand} {a b : Nat} (hg : wantedE n e g = true) (hx : ev n e x = VN a) (hy : ev n e y = VN b) (h : Plan P n K l O (upd e d (VN (min a b))) w) :
   Plan P n K (⟨i, true, ⟨some d, .call ⟨.builtin .min, #[x, y], at'⟩, ty, pos, aft, gd⟩, g⟩ :: l) O e w :=
 Plan.val hg (fun w => run_blt2s (P := P) fun cs => by
   rw [hx, hy]
   simp only [builtin, Sem.run_bind, Builtin.min_, List.foldlM_cons, List.foldlM_nil, Builtin.min2, Sem.run_pure, Result.andThen_ok]
   have e1 : (if ((b : Int) < (a : Int)) then (b : Int) else (a : Int)) = ((min a b : Nat) : Int) := by
     split <;> omega
   rw [e1]) h
theorem run_stringOp {op : BinOp} {t yt : TypeId} {x y : Operand} {ρ : Operand → Value} {A B : ByteArray} {v : Value} {dst : Option Tmp} {w : World} (hx : ρ x = .string A) (hy : ρ y = .string B) (h : (Op.stringOp op A B).run P w = .ok v w) (hop : op = .eql ∨ op = .neq) :
   (execOp ρ ⟨dst, .binOp op t x y yt, ty, pos, aft, gd⟩).run P w = .ok (.value v) w := by
 refine run_v ?_
 rw [hx, hy]
 have hq : (eqGuard op t x y (.string A) (.string B)).run P w = .ok () w := by
   unfold eqGuard; cases op <;> rfl
 rw [Sem.run_bind, hq]
 rcases hop with rfl | rfl <;> exact h
theorem toList_inj {A B : ByteArray} : (A.toList == B.toList) = decide (A = B) := by
 rw [Bool.eq_iff_iff, beq_iff_eq, decide_eq_true_iff]
 constructor
 · intro h
   rw [ByteArray.toList_eq, ByteArray.toList_eq] at h
   exact ByteArray.ext (Array.toList_inj.1 h)
 · rintro rfl; rfl
theorem Plan.eqStr {t yt : TypeId} {x y : Operand} {X Y : List Byte} (hg : wantedE n e g = true) (hx : ev n e x = .string (strL X)) (hy : ev n e y = .string (strL Y))
   (h : Plan P n K l O (upd e d (.bool (decide (X = Y)))) w) : Plan P n K (⟨i, true, ⟨some d, .binOp .eql t x y yt, ty, pos, aft, gd⟩, g⟩ :: l) O e w :=
 Plan.val hg (fun w => run_stringOp hx hy (by
   simp only [Op.stringOp, Sem.run_pure, toList_inj, strL_inj]) (.inl rfl)) h
end step
end Go.LW
namespace Go.LW
set_option linter.unusedSimpArgs false
set_option linter.unusedVariables false
set_option linter.unusedSectionVars false
open Go Go.RowKit
section step
variable {P : Program} {n : Nat} {K : Pend → Env → World → Prop} {l : List It} {O O' : Pend} {e : Env} {w : World} {i i2 ty ty2 : Nat} {d d2 : Tmp} {pos pos2 : String} {aft aft2 : Array Edge} {gd gd2 g g2 : Option (Nat × Bool)}
variable {B : Nat} {w0 : Base} {L L' : List Rg}
end step
end Go.LW
namespace Go.LW
set_option linter.unusedSimpArgs false
set_option linter.unusedVariables false
set_option linter.unusedSectionVars false
open Go Go.RowKit
section st
variable {B : Nat} {w0 : Base} {w : World} {L : List Rg}
end st
section step
variable {P : Program} {n : Nat} {K : Pend → Env → World → Prop} {l : List It} {O O' : Pend} {e : Env} {w : World} {i ty : Nat} {d : Tmp} {pos : String} {aft : Array Edge} {gd g : Option (Nat × Bool)}
variable {B : Nat} {w0 : Base} {L L' : List Rg}
end step
end Go.LW
