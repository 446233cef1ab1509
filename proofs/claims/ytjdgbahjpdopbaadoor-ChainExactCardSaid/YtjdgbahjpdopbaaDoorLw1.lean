/-
  ENGINE, PART 1 (own work): the frame as a function, the judgement W on code, and PLANS: one walk of a region in one fixed order that serves every order which the tape may draw.
-/
import Derived.WalkKit
import Derived.OrdersHeld
namespace Go.LW
set_option linter.unusedSimpArgs false
set_option linter.unusedVariables false
set_option linter.unusedSectionVars false
open Go Go.RowKit

abbrev Env := Nat → Value
def upd {α : Type} (e : Nat → α) (d : Nat) (v : α) : Nat → α := fun i => cond (Nat.beq i d) v (e i)
theorem upd_at {α : Type} (e : Nat → α) (d : Nat) (v : α) (i : Nat) : upd e d v i = if i = d then v else e i := by
  show cond (Nat.beq i d) v (e i) = _
  cases hb : Nat.beq i d with
  | true => simp [Nat.eq_of_beq_eq_true hb]
  | false => simp [Nat.ne_of_beq_eq_false hb]
def updO (e : Env) (d : Option Nat) (v : Value) : Env := match d with | some d => upd e d v | none => e
theorem upd_same {α : Type} (e : Nat → α) (d : Nat) (v : α) : upd e d v d = v := by simp [upd_at]
theorem upd_ne {α : Type} (e : Nat → α) (d : Nat) (v : α) (i : Nat) (h : i ≠ d) : upd e d v i = e i := by simp [upd_at, h]

def act (n : Nat) (e : Env) : Act := { tmps := Array.ofFn (n := n) fun i => e i.val, defers := [] }

def ev (n : Nat) (e : Env) : Operand → Value
  | .tmp t => cond (Nat.blt t n) (e t) undef
  | .const v => v
  | .global g => .pointer (some ⟨g, 0, none⟩)
  | .func f => .func (.func f) #[] #[]

theorem ev_tmp (n : Nat) (e : Env) (t : Nat) : ev n e (.tmp t) = if t < n then e t else undef := by
  show cond (Nat.blt t n) (e t) undef = _
  by_cases h : t < n
  · have : Nat.blt t n = true := by simpa [Nat.blt_eq] using h
    simp [h, this]
  · have : Nat.blt t n = false := by
      cases hb : Nat.blt t n with
      | false => rfl
      | true => exact absurd (by simpa [Nat.blt_eq] using hb) h
    simp [h, this]

theorem act_get (n : Nat) (e : Env) (t : Nat) : (act n e).tmps[t]? = if t < n then some (e t) else none := by
  unfold act
  by_cases h : t < n
  · simp [h]
  · simp [h]

theorem act_eval (n : Nat) (e : Env) : (act n e).eval = ev n e := by
  funext x
  cases x with
  | tmp t =>
    show (act n e).tmps.getD t undef = cond (Nat.blt t n) (e t) undef
    rw [Array.getD_eq_getD_getElem?, act_get]
    by_cases h : t < n
    · have : Nat.blt t n = true := by simpa [Nat.blt_eq] using h
      simp [h, this]
    · have : Nat.blt t n = false := by
        cases hb : Nat.blt t n with
        | false => rfl
        | true => exact absurd (by simpa [Nat.blt_eq] using hb) h
      simp [h, this]
  | const v => rfl
  | global g => rfl
  | func f => rfl

theorem act_put (n : Nat) (e : Env) (d : Option Nat) (v : Value) : (act n e).put d v = act n (updO e d v) := by
  cases d with
  | none => rfl
  | some d =>
    show (⟨(Array.ofFn (n := n) fun i => e i.val).setIfInBounds d v, []⟩ : Act) = ⟨Array.ofFn (n := n) fun i => upd e d v i.val, []⟩
    congr 1
    apply Array.ext_getElem?
    intro i
    rw [Array.getElem?_setIfInBounds]
    by_cases hid : d = i
    · subst hid
      by_cases hn : d < n <;> simp [hn, upd_at]
    · by_cases hn : i < n <;> simp [hid, hn, upd_at, Ne.symm hid]

/-- The frame in which a call begins. -/
theorem act_enter (n : Nat) (args : Array Value) (h : args.size ≤ n) :
    ({ tmps := args ++ Array.replicate (n - args.size) undef, defers := [] } : Act) = act n (fun i => args.getD i undef) := by
  unfold act
  congr 1
  apply Array.ext
  · simp; omega
  · intro i h1 h2
    simp only [Array.getElem_ofFn]
    by_cases hi : i < args.size
    · rw [Array.getElem_append_left hi]; simp [hi]
    · rw [Array.getElem_append_right (by omega)]; simp [hi]

/-! ### Code -/
def QE (n : Nat) (R : Exit → Env → World → Prop) : Exit → Act → World → Prop
  | .panic _, _, _ => False
  | .outgrown, _, _ => False
  | x, a, w => ∃ e, a = act n e ∧ R x e w

def W (P : Program) (n : Nat) (c : Code) (R : Exit → Env → World → Prop) (e : Env) (w : World) : Prop := c.wp P (QE n R) (act n e) w

def thenR (K : Env → World → Prop) (R : Exit → Env → World → Prop) : Exit → Env → World → Prop
  | .normal, e, w => K e w
  | x, e, w => R x e w

def blockR (id : Nat) (R : Exit → Env → World → Prop) : Exit → Env → World → Prop
  | .exit id', e, w => if id' = id then R .normal e w else R (.exit id') e w
  | x, e, w => R x e w

section code
variable {P : Program} {n : Nat} {R : Exit → Env → World → Prop} {e : Env} {w : World}

theorem W.mono {c : Code} {R' : Exit → Env → World → Prop} (h : W P n c R e w) (hR : ∀ x e w, R x e w → R' x e w) : W P n c R' e w :=
  wp_mono h fun x a w hq => by
    cases x <;> first | exact hq | (obtain ⟨e, he, hr⟩ := hq; exact ⟨e, he, hR _ _ _ hr⟩)

theorem W.seq {x y : Code} (h : W P n x (thenR (fun e w => W P n y R e w) R) e w) : W P n (.seq x y) R e w :=
  wp_seq (wp_mono h fun ex a w hq => by
    cases ex <;> first | exact hq | (obtain ⟨e, he, hr⟩ := hq; subst he; exact hr) | (obtain ⟨e, he, hr⟩ := hq; exact ⟨e, he, hr⟩))

theorem W.seq_k {x y : Code} (h : ∀ K : Env → World → Prop, (∀ e w, W P n y R e w → K e w) → W P n x (thenR K R) e w) : W P n (.seq x y) R e w :=
  W.seq (h _ fun _ _ h => h)

theorem W.skip (h : R .normal e w) : W P n .skip R e w := wp_skip (P := P) (Q := QE n R) ⟨e, rfl, h⟩
theorem W.exit {id : Nat} (h : R (.exit id) e w) : W P n (.exit id) R e w := wp_exit (P := P) (Q := QE n R) ⟨e, rfl, h⟩
theorem W.ret (h : R .ret e w) : W P n .ret R e w := wp_ret (P := P) (Q := QE n R) ⟨e, rfl, h⟩
theorem W.block {id : Nat} {c : Code} (h : W P n c (blockR id R) e w) : W P n (.block id c) R e w :=
  wp_block (wp_mono h fun ex a w hq => by
    cases ex with
    | exit id' =>
      obtain ⟨e, he, hr⟩ := hq
      unfold blockR at hr
      unfold Exit.inBlock
      by_cases hid : id' = id
      · simp only [hid, if_true] at hr ⊢; exact ⟨e, he, hr⟩
      · simp only [hid, if_false] at hr ⊢; exact ⟨e, he, hr⟩
    | _ => exact hq)

theorem W.cond {c : Operand} {x y : Code} {b : Bool} (hc : ev n e c = .bool b) (h : W P n (if b then x else y) R e w) : W P n (.cond c x y) R e w :=
  wp_cond (by rw [act_eval]; exact hc) h
theorem W.condT {c : Operand} {x y : Code} (hc : ev n e c = .bool true) (h : W P n x R e w) : W P n (.cond c x y) R e w := W.cond hc h
theorem W.condF {c : Operand} {x y : Code} (hc : ev n e c = .bool false) (h : W P n y R e w) : W P n (.cond c x y) R e w := W.cond hc h

/-- A loop, by an invariant with a rank that every round lowers. -/
theorem wp_loop_rank {c : Code} {Q : Exit → Act → World → Prop} {a : Act} {w : World} (I : Nat → Act → World → Prop) (m0 : Nat) (h0 : I m0 a w)
    (round : ∀ m a w, I m a w → c.wp P (Exit.then (fun a' w' => ∃ m', m' < m ∧ I m' a' w') Q) a w) : (Code.loop c).wp P Q a w := by
  intro b k cs
  have key : ∀ m a w, I m a w → ∃ e a' w', Q e a' w' ∧ Arrives P (lone (b.at a (.code c :: .inLoop c :: k)) cs w) b k cs e a' w' := by
    intro m
    induction m using Nat.strongRecOn with
    | _ m ih =>
      intro a w hI
      obtain ⟨e, a₁, w₁, hq, harr⟩ := round m a w hI b (.inLoop c :: k) cs
      cases e with
      | normal =>
        obtain ⟨m', hlt, hI₁⟩ := hq
        obtain ⟨e₂, a₂, w₂, hq₂, harr₂⟩ := ih m' hlt a₁ w₁ hI₁
        exact ⟨e₂, a₂, w₂, hq₂, .of_steps (Steps.trans harr (.one step_inLoop)) harr₂⟩
      | exit id => exact ⟨_, a₁, w₁, hq, .pass (x := .inLoop c) rfl (fun _ _ => .inl (by simp)) harr⟩
      | goto l => exact ⟨_, a₁, w₁, hq, .pass (x := .inLoop c) rfl (fun _ _ => .inl (by simp)) harr⟩
      | ret => exact ⟨_, a₁, w₁, hq, .pass (x := .inLoop c) rfl (fun _ _ => .inl (by simp)) harr⟩
      | panic ch => exact ⟨_, a₁, w₁, hq, .pass (x := .inLoop c) rfl (fun _ _ => .inl (by simp)) harr⟩
      | outgrown => exact ⟨_, a₁, w₁, hq, .pass (x := .inLoop c) rfl (fun _ _ => .inl (by simp)) harr⟩
  obtain ⟨e, a', w', hq, harr⟩ := key _ a w h0
  exact ⟨e, a', w', hq, .of_steps (.one step_loop) harr⟩

theorem W.loop {c : Code} (I : Nat → Env → World → Prop) (m0 : Nat) (h0 : I m0 e w)
    (round : ∀ m e w, I m e w → W P n c (thenR (fun e' w' => ∃ m', m' < m ∧ I m' e' w') R) e w) : W P n (.loop c) R e w := by
  refine wp_loop_rank (fun m a w => ∃ e, a = act n e ∧ I m e w) m0 ⟨e, rfl, h0⟩ ?_
  rintro m a w ⟨e, rfl, hI⟩
  refine wp_mono (round m e w hI) fun x a' w' hx => ?_
  cases x <;> first | exact hx | (obtain ⟨e', rfl, m', hm, hI'⟩ := hx; exact ⟨m', hm, e', rfl, hI'⟩) | (obtain ⟨e', he, hr⟩ := hx; exact ⟨e', he, hr⟩)

/-- What follows is proved once, of every state that fits. -/
theorem W.cut {c : Code} {K : Env → World → Prop} (J : Env → World → Prop) (h : W P n c (thenR J R) e w) (hJ : ∀ e w, J e w → K e w) : W P n c (thenR K R) e w :=
  h.mono fun x e w hx => by cases x <;> first | exact hJ _ _ hx | exact hx
end code

/-! ### Regions -/
/-- An operation as it comes up: its number, whether it is still, itself, its guard by slot. -/
structure It where
  i : Nat
  st : Bool
  o : Oper
  g : Option (Nat × Bool)

def gslot (ops : Array Oper) (o : Oper) : Option (Nat × Bool) :=
  match o.guard with
  | none => none
  | some (j, want) => match (ops.getD j default).dst with
    | some d => some (d, want)
    | none => some (1000000, want)

def items (ops : Array Oper) (σ : List (Nat × Bool)) : List It := σ.map fun p => ⟨p.1, p.2, ops.getD p.1 default, gslot ops (ops.getD p.1 default)⟩

def waitsO (o : Oper) (i : Nat) : Bool := o.after.toList.any fun e => Region.binds .any e && Nat.beq e.on i

def wantedE (n : Nat) (e : Env) : Option (Nat × Bool) → Bool
  | none => true
  | some (t, want) => match ev n e (.tmp t) with
    | .bool b => b == want
    | _ => false

abbrev Pend := List (Nat × (World → Prop))

/-- What is asked of what an operation has come to. -/
def uponE (P : Program) (K : Value → World → Prop) : Result Next → Prop
  | .ok (.value v) w' => K v w'
  | .ok .skip w' => K undef w'
  | .ok (.enter f args) w' => Calls P f args w' fun e w'' => ∃ v, e = .returned v ∧ K v w''
  | _ => False

def Plan (P : Program) (n : Nat) (K : Pend → Env → World → Prop) : List It → Pend → Env → World → Prop
  | [], O, e, w => K O e w
  | it :: l, O, e, w =>
    if wantedE n e it.g then
      if it.st then ∃ v, ((∀ w, (execOp (ev n e) it.o).run P w = .ok (.value v) w) ∧ Plan P n K l O (updO e it.o.dst v) w) ∨
        (∃ S : World → Prop, S w ∧ (∀ w, S w → (execOp (ev n e) it.o).run P w = .ok (.value v) w) ∧ Plan P n K l ((it.i, S) :: O) (updO e it.o.dst v) w)
      else uponE P (fun v w' => ((∀ p ∈ O, p.2 w → p.2 w') ∧ Plan P n K l O (updO e it.o.dst v) w') ∨ (O.all (fun p => waitsO it.o p.1) = true ∧ Plan P n K l [] (updO e it.o.dst v) w'))
        ((execOp (ev n e) it.o).run P w)
    else Plan P n K l O (updO e it.o.dst undef) w

theorem uponE_mono {P : Program} {K K' : Value → World → Prop} (h : ∀ v w, K v w → K' v w) {r : Result Next} (hr : uponE P K r) : uponE P K' r := by
  cases r with
  | ok x w =>
    cases x <;> simp only [uponE] at hr ⊢
    case value v => exact h _ _ hr
    case skip => exact h _ _ hr
    case enter f args => exact hr.mono fun e w' ⟨v, he, hv⟩ => ⟨v, he, h _ _ hv⟩
  | halt x w => simp only [uponE] at hr

theorem Plan.mono {P : Program} {n : Nat} {K K' : Pend → Env → World → Prop} (h : ∀ O e w, K O e w → K' O e w) : ∀ (l : List It) (O : Pend) (e : Env) (w : World), Plan P n K l O e w → Plan P n K' l O e w
  | [], _, _, _, hp => h _ _ _ hp
  | it :: l, O, e, w, hp => by
    unfold Plan at hp ⊢
    split
    · rename_i hw
      rw [if_pos hw] at hp
      split
      · rename_i hst
        rw [if_pos hst] at hp
        obtain ⟨v, ⟨h3, h4⟩ | ⟨S, h2, h3, h4⟩⟩ := hp
        · exact ⟨v, .inl ⟨h3, Plan.mono h l _ _ _ h4⟩⟩
        · exact ⟨v, .inr ⟨S, h2, h3, Plan.mono h l _ _ _ h4⟩⟩
      · rename_i hst
        rw [if_neg hst] at hp
        exact uponE_mono (fun v w' hk => hk.imp (fun ⟨a, b⟩ => ⟨a, Plan.mono h l _ _ _ b⟩) (fun ⟨a, b⟩ => ⟨a, Plan.mono h l _ _ _ b⟩)) hp
    · rename_i hw
      rw [if_neg hw] at hp
      exact Plan.mono h l _ _ _ hp

/-- The order fits so far: a still operation is taken where it may come up and nobody who may come before it touches its slots; another where nothing else may come up. What is listed behind it. -/
def planP (ops : Array Oper) : List (Nat × Bool) → Array Bool → Option (Array Bool)
  | [], listed => some listed
  | (i, true) :: σ, listed => if (Region.ready .any ops listed).contains i && Region.free .any ops listed i then planP ops σ (listed.setIfInBounds i true) else none
  | (i, false) :: σ, listed => if Region.ready .any ops listed == [i] then planP ops σ (listed.setIfInBounds i true) else none

/-- Orders: a line; or a line, behind which either of two may come. -/
inductive Tr
  | line (σ : List (Nat × Bool))
  | fork (σ : List (Nat × Bool)) (a b : Tr)
def Tr.heads : Tr → List Nat
  | .line σ => (σ.head?.map (·.1)).toList
  | .fork σ a b => match σ with
    | [] => a.heads ++ b.heads
    | p :: _ => [p.1]
def Tr.depth : Tr → Nat
  | .line σ => σ.length
  | .fork σ a _ => σ.length + a.depth
def Tr.even : Tr → Bool
  | .line _ => true
  | .fork _ a b => a.even && b.even && (a.depth == b.depth)
/-- where the first is one that the machine has drawn -/
def offFirst (first : Bool) (σ : List (Nat × Bool)) (l : Array Bool) : Option (List (Nat × Bool) × Array Bool) :=
  if first then match σ with
    | (i, false) :: σ' => some (σ', l.setIfInBounds i true)
    | _ => none
  else some (σ, l)
def planG (ops : Array Oper) (first : Bool) : Tr → Array Bool → Bool
  | .line σ, l => match offFirst first σ l with
    | some (σ', l') => match planP ops σ' l' with
      | some l'' => Region.ready .any ops l'' == []
      | none => false
    | none => false
  | .fork σ a b, l =>
    if first && σ.isEmpty then planG ops true a l && planG ops true b l
    else match offFirst first σ l with
      | some (σ', l') => match planP ops σ' l' with
        | some l'' => !(Region.ready .any ops l'').isEmpty && (Region.ready .any ops l'').all (fun j => (a.heads ++ b.heads).contains j) && planG ops true a l'' && planG ops true b l''
        | none => false
      | none => false

def planTok (ops : Array Oper) (n : Nat) (t : Tr) : Bool :=
  Region.noSelect ops && t.even && (t.depth == ops.size) && Nat.ble n 1000000 && planG ops false t (Array.replicate ops.size false)

def PlanT (P : Program) (n : Nat) (ops : Array Oper) (K : Env → World → Prop) : Tr → Pend → Env → World → Prop
  | .line σ, O, e, w => Plan P n (fun _ e w => K e w) (items ops σ) O e w
  | .fork σ a b, O, e, w => Plan P n (fun O e w => PlanT P n ops K a O e w ∧ PlanT P n ops K b O e w) (items ops σ) O e w
theorem PlanT.mono {P : Program} {n : Nat} {ops : Array Oper} {K K' : Env → World → Prop} (h : ∀ e w, K e w → K' e w) : ∀ (t : Tr) (O : Pend) (e : Env) (w : World), PlanT P n ops K t O e w → PlanT P n ops K' t O e w
  | .line _, _, _, _, hp => Plan.mono (fun _ _ _ hk => h _ _ hk) _ _ _ _ hp
  | .fork _ a b, _, _, _, hp => Plan.mono (fun _ _ _ hk => ⟨PlanT.mono h a _ _ _ hk.1, PlanT.mono h b _ _ _ hk.2⟩) _ _ _ _ hp

section plans
variable {P : Program} {n : Nat} {ops : Array Oper} {Q : Exit → Act → World → Prop}

def wpAnyO (P : Program) (ops : Array Oper) (Q : Exit → Act → World → Prop) : Pend → Nat → Array Bool → Act → World → Prop
  | _, 0, listed, a, w => Region.ready .any ops listed = [] ∧ Q .normal a w
  | O, f + 1, listed, a, w =>
    (Region.ready .any ops listed = [] → Q .normal a w) ∧
    ∀ j ∈ Region.ready .any ops listed, wpOp P ops Q j (fun a' w' => (∀ p ∈ O, waitsO (ops.getD j default) p.1 = false → p.2 w') ∧
      wpAnyO P ops Q (O.filter fun p => !waitsO (ops.getD j default) p.1) f (listed.setIfInBounds j true) a' w') a w

theorem anyO_any : ∀ (f : Nat) (O : Pend) (listed : Array Bool) (a : Act) (w : World), wpAnyO P ops Q O f listed a w → wpAny P .any ops Q f listed a w
  | 0, _, _, _, _, h => h
  | f + 1, _, _, _, _, h => ⟨h.1, fun j hj => wpOp_mono (fun a' w' h' => anyO_any f _ _ a' w' h'.2) (h.2 j hj)⟩

theorem anyO_weaken : ∀ (f : Nat) (O O' : Pend) (listed : Array Bool) (a : Act) (w : World), (∀ p ∈ O', p ∈ O ∨ ∀ w, p.2 w) → wpAnyO P ops Q O f listed a w → wpAnyO P ops Q O' f listed a w
  | 0, _, _, _, _, _, _, h => h
  | f + 1, O, O', listed, a, w, hs, h => ⟨h.1, fun j hj => wpOp_mono (fun a' w' h' => ⟨fun p hp hw => (hs p hp).elim (fun h => h'.1 p h hw) (fun h => h w'),
      anyO_weaken f _ _ _ _ _ (fun p hp => by simp only [List.mem_filter] at *; exact (hs p hp.1).imp (fun h => ⟨h, hp.2⟩) id) h'.2⟩) (h.2 j hj)⟩

theorem ops_getD {i : Nat} {o : Oper} (h : ops[i]? = some o) : ops.getD i default = o := by
  rw [Array.getD_eq_getD_getElem?, h]; rfl

theorem anyO_first {i : Nat} {oi : Oper} {v : Value} {S : World → Prop} (hi : ops[i]? = some oi) (hsel : ∀ (j : Nat) (o : Oper) cs b, ops[j]? = some o → o.op ≠ .select cs b)
    (hQ : ∀ c a w, Q (.panic c) (a.put oi.dst v) w → Q (.panic c) a w) :
    ∀ (f : Nat) (O : Pend) (listed : Array Bool) (a : Act) (w : World), (∀ p ∈ O, p.2 w) →
      (∀ j oj, ops[j]? = some oj → j ≠ i → listed.getD j true = false → (∀ e ∈ oj.after, Region.binds .any e = true → e.on ≠ i) → oi.apart ops oj = true) →
      i ∈ Region.ready .any ops listed → YieldsIf P ops S oi v a → S w →
      wpAnyO P ops Q ((i, S) :: O) f (listed.setIfInBounds i true) (a.put oi.dst v) w → wpAnyO P ops Q O (f + 1) listed a w := by
  intro f
  induction f with
  | zero =>
    intro O listed a w hO _ hr hy hS H
    refine ⟨fun h => (by rw [h] at hr; cases hr), fun j hj => ?_⟩
    by_cases hji : j = i
    · subst hji
      exact hy.wpOp hi hS ⟨fun p hp _ => hO p hp, H⟩
    · have := ready_mono hj hji
      rw [H.1] at this
      cases this
  | succ f ih =>
    intro O listed a w hO hfree hr hy hS H
    refine ⟨fun h => (by rw [h] at hr; cases hr), fun j hj => ?_⟩
    by_cases hji : j = i
    · subst hji
      exact hy.wpOp hi hS ⟨fun p hp _ => hO p hp, anyO_weaken _ _ _ _ _ _ (fun p hp => .inl (List.mem_cons_of_mem _ (List.mem_filter.1 hp).1)) H⟩
    · have h1 := H.2 j (ready_mono hj hji)
      obtain ⟨hjun, oj, hoj, hall⟩ := mem_ready.1 hj
      have hnot : ∀ e ∈ oj.after, Region.binds .any e = true → e.on ≠ i := fun e he hb heq => by
        have h1 := hall e he hb
        have h0 := (mem_ready.1 hr).1
        rw [heq] at h1
        rcases Nat.lt_or_ge i listed.size with h' | h'
        · simp [h'] at h0 h1; rw [h0] at h1; cases h1
        · simp [Array.getElem?_eq_none h'] at h1
      have hwait : waitsO (ops.getD j default) i = false := by
        rw [ops_getD hoj]
        unfold waitsO
        cases hb : oj.after.toList.any (fun e => Region.binds .any e && Nat.beq e.on i) with
        | false => rfl
        | true =>
          obtain ⟨e, he, hb⟩ := List.any_eq_true.1 hb
          simp only [Bool.and_eq_true] at hb
          exact absurd (Nat.eq_of_beq_eq_true hb.2) (hnot e (by simpa using he) hb.1)
      have h2 := wpOp_putIf hoj (hfree j oj hoj hji hjun hnot) (fun cs b => hsel i oi cs b hi) (fun cs b => hsel j oj cs b hoj) hQ hy h1
      have hfree' : ∀ k ok, ops[k]? = some ok → k ≠ i → (listed.setIfInBounds j true).getD k true = false →
          (∀ e ∈ ok.after, Region.binds .any e = true → e.on ≠ i) → oi.apart ops ok = true := fun k ok hk hki hun hno => by
        refine hfree k ok hk hki ?_ hno
        by_cases hjk : j = k
        · subst hjk; exact hjun
        · rw [getD_set_ne true hjk] at hun; exact hun
      refine wpOp_mono (fun a' w' h3 => ?_) h2
      obtain ⟨hy', hpend, hrest⟩ := h3
      have hS' : S w' := hpend (i, S) List.mem_cons_self hwait
      refine ⟨fun p hp hw => hpend p (List.mem_cons_of_mem _ hp) hw, ?_⟩
      refine ih _ (listed.setIfInBounds j true) a' w' ?_ hfree' (ready_mono hr (Ne.symm hji)) hy' hS' ?_
      · intro p hp
        simp only [List.mem_filter, Bool.not_eq_true'] at hp
        exact hpend p (List.mem_cons_of_mem _ hp.1) hp.2
      · rw [Array.setIfInBounds_comm _ _ hji]
        have hfil : ((i, S) :: O).filter (fun p => !waitsO (ops.getD j default) p.1) = (i, S) :: O.filter (fun p => !waitsO (ops.getD j default) p.1) := by
          rw [List.filter_cons, if_pos (by show (!waitsO (ops.getD j default) i) = true; rw [hwait]; rfl)]
        rw [hfil] at hrest
        exact hrest

theorem gslot_spec (e : Env) {o : Oper} (hn : n ≤ 1000000) : wantedE n e (gslot ops o) = Region.wanted o (yielded ops (act n e).tmps) := by
  unfold gslot Region.wanted wantedE yielded
  cases hg : o.guard with
  | none => rfl
  | some jw =>
    obtain ⟨j, want⟩ := jw
    simp only
    rw [Array.getD_eq_getD_getElem?]
    have hbig : ev n e (.tmp 1000000) = undef := by rw [ev_tmp, if_neg (by omega)]
    cases ho : ops[j]? with
    | none =>
      have h1 : ((default : Oper).dst) = none := rfl
      simp only [Option.getD_none, h1, Option.bind_none, hbig]
      rfl
    | some oj =>
      simp only [Option.getD_some, Option.bind_some]
      cases hd : oj.dst with
      | none =>
        simp only [hbig, Option.bind_none]; rfl
      | some d =>
        simp only [Option.bind_some, act_get, ev_tmp]
        by_cases h : d < n
        · simp only [h, if_true]
          cases hv : e d <;> simp
        · simp only [h, if_false]
          rfl

theorem upon_wp {o : Oper} {e : Env} {w : World} {K : Value → World → Prop} {K' : Act → World → Prop} (hK : ∀ v w', K v w' → K' (act n (updO e o.dst v)) w')
    (h : uponE P K ((execOp (ev n e) o).run P w)) : o.wp P (act n e) w K' Q := by
  unfold Oper.wp
  rw [act_eval]
  generalize (execOp (ev n e) o).run P w = r at *
  cases r with
  | ok x w' =>
    cases x <;> simp only [uponE] at h <;> simp only [Oper.upon]
    case value v => rw [act_put]; exact hK _ _ h
    case skip => rw [act_put]; exact hK _ _ h
    case enter f args =>
      refine h.mono fun x w'' hx => ?_
      obtain ⟨v, rfl, hv⟩ := hx
      simp only
      rw [act_put]; exact hK _ _ hv
  | halt x w' => simp only [uponE] at h

/-- One that the machine has drawn. -/
theorem eff_step (hn : n ≤ 1000000) {K : Pend → Env → World → Prop} {f i : Nat} {σ : List (Nat × Bool)} {O : Pend} {listed : Array Bool} {e : Env} {w : World} (hr' : i ∈ Region.ready .any ops listed) (hO : ∀ p ∈ O, p.2 w)
    (hnext : ∀ (O : Pend) (e : Env) (w : World), (∀ p ∈ O, p.2 w) → Plan P n K (items ops σ) O e w → wpAnyO P ops Q O f (listed.setIfInBounds i true) (act n e) w)
    (h : Plan P n K (items ops ((i, false) :: σ)) O e w) :
    wpOp P ops Q i (fun a' w' => (∀ p ∈ O, waitsO (ops.getD i default) p.1 = false → p.2 w') ∧ wpAnyO P ops Q (O.filter fun p => !waitsO (ops.getD i default) p.1) f (listed.setIfInBounds i true) a' w') (act n e) w := by
  obtain ⟨_, oi, hoi, _⟩ := mem_ready.1 hr'
  have hit : items ops ((i, false) :: σ) = ⟨i, false, ops.getD i default, gslot ops (ops.getD i default)⟩ :: items ops σ := rfl
  rw [hit, ops_getD hoi] at h
  unfold Plan at h
  rw [gslot_spec e hn] at h
  unfold wpOp
  simp only [hoi]
  by_cases hw : Region.wanted oi (yielded ops (act n e).tmps) = true
  · rw [if_pos hw] at h
    simp only [hw, if_true]
    simp only [Bool.false_eq_true, if_false] at h
    refine .inl (upon_wp (fun v w' hk => ?_) h)
    rw [ops_getD hoi]
    rcases hk with ⟨hb, hrest⟩ | ⟨hall, hrest⟩
    · have hO' : ∀ p ∈ O, p.2 w' := fun p hp => hb p hp (hO p hp)
      exact ⟨fun p hp _ => hO' p hp, anyO_weaken _ _ _ _ _ _ (fun p hp => .inl (List.mem_filter.1 hp).1) (hnext _ _ _ hO' hrest)⟩
    · rw [List.all_eq_true] at hall
      refine ⟨fun p hp hw0 => absurd (hall p hp) (by rw [hw0]; exact Bool.false_ne_true), anyO_weaken _ _ _ _ _ _ (fun p hp => ?_) (hnext [] _ _ (fun p hp => by cases hp) hrest)⟩
      simp only [List.mem_filter, Bool.not_eq_true'] at hp
      rw [hall p hp.1] at hp
      cases hp.2
  · rw [if_neg hw] at h
    simp only [hw, Bool.false_eq_true, if_false]
    rw [act_put, ops_getD hoi]
    exact ⟨fun p hp _ => hO p hp, anyO_weaken _ _ _ _ _ _ (fun p hp => .inl (List.mem_filter.1 hp).1) (hnext _ _ _ hO h)⟩

theorem plan_pre (hn : n ≤ 1000000) (hs : Region.noSelect ops = true) (hQ : ∀ c a w, ¬ Q (.panic c) a w) {K : Pend → Env → World → Prop} {f : Nat} {l' : Array Bool}
    (hK : ∀ (O : Pend) (e : Env) (w : World), (∀ p ∈ O, p.2 w) → K O e w → wpAnyO P ops Q O f l' (act n e) w) :
    ∀ (σ : List (Nat × Bool)) (O : Pend) (listed : Array Bool) (e : Env) (w : World), planP ops σ listed = some l' → (∀ p ∈ O, p.2 w) →
      Plan P n K (items ops σ) O e w → wpAnyO P ops Q O (σ.length + f) listed (act n e) w
  | [], O, listed, e, w, hB, hO, h => by
    simp only [planP, Option.some.injEq] at hB
    subst hB
    rw [List.length_nil, Nat.zero_add]
    exact hK O e w hO h
  | (i, true) :: σ, O, listed, e, w, hB, hO, h => by
    simp only [planP] at hB
    split at hB
    · rename_i hrf
      simp only [Bool.and_eq_true] at hrf
      obtain ⟨hr, hf⟩ := hrf
      have hB' := hB
      have hr' : i ∈ Region.ready .any ops listed := by simpa using hr
      obtain ⟨_, oi, hoi, _⟩ := mem_ready.1 hr'
      have hit : items ops ((i, true) :: σ) = ⟨i, true, ops.getD i default, gslot ops (ops.getD i default)⟩ :: items ops σ := rfl
      rw [hit, ops_getD hoi] at h
      unfold Plan at h
      rw [gslot_spec e hn] at h
      rw [List.length_cons, Nat.add_right_comm]
      by_cases hw : Region.wanted oi (yielded ops (act n e).tmps) = true
      · rw [if_pos hw] at h
        simp only [if_true] at h
        obtain ⟨v, ⟨hrun, hrest⟩ | ⟨S, hS, hrun, hrest⟩⟩ := h
        · refine anyO_first hoi (Region.noSelect_spec hs) (fun c a w hq => absurd hq (hQ _ _ _)) (σ.length + f) O listed (act n e) w (fun p hp => hO p hp) (Region.free_spec hoi hf) hr'
            (v := v) (S := fun _ => True) (.inl ⟨hw, fun w' _ => by rw [act_eval]; exact hrun w'⟩) trivial ?_
          rw [act_put]
          exact anyO_weaken _ O _ _ _ _ (fun p hp => by
            rcases List.mem_cons.1 hp with rfl | hp
            · exact .inr fun _ => trivial
            · exact .inl hp) (plan_pre hn hs hQ hK σ _ _ _ _ hB' hO hrest)
        · refine anyO_first hoi (Region.noSelect_spec hs) (fun c a w hq => absurd hq (hQ _ _ _)) (σ.length + f) O listed (act n e) w (fun p hp => hO p hp) (Region.free_spec hoi hf) hr'
            (v := v) (S := S) (.inl ⟨hw, fun w' hw' => by rw [act_eval]; exact hrun w' hw'⟩) hS ?_
          rw [act_put]
          exact plan_pre hn hs hQ hK σ _ _ _ _ hB' (fun p hp => by
            rcases List.mem_cons.1 hp with rfl | hp
            · exact hS
            · exact hO p hp) hrest
      · rw [if_neg hw] at h
        refine anyO_first hoi (Region.noSelect_spec hs) (fun c a w hq => absurd hq (hQ _ _ _)) (σ.length + f) O listed (act n e) w (fun p hp => hO p hp) (Region.free_spec hoi hf) hr'
          (v := undef) (S := fun _ => True) (.inr ⟨by simpa using hw, rfl⟩) trivial ?_
        rw [act_put]
        exact anyO_weaken _ O _ _ _ _ (fun p hp => by
          rcases List.mem_cons.1 hp with rfl | hp
          · exact .inr fun _ => trivial
          · exact .inl hp) (plan_pre hn hs hQ hK σ _ _ _ _ hB' hO h)
    · cases hB
  | (i, false) :: σ, O, listed, e, w, hB, hO, h => by
    simp only [planP] at hB
    split at hB
    · rename_i hr
      rw [beq_iff_eq] at hr
      rw [List.length_cons, Nat.add_right_comm]
      refine ⟨fun h0 => (by rw [h0] at hr; cases hr), fun j hj => ?_⟩
      rw [hr] at hj
      obtain rfl : j = i := by simpa using hj
      exact eff_step hn (by rw [hr]; simp) hO (fun O e w hO h => plan_pre hn hs hQ hK σ O _ e w hB hO h) h
    · cases hB

/-- Behind a line: whatever the machine draws, one of the two trees begins with it. -/
theorem fork_step {K : Env → World → Prop} {a b : Tr} {l'' : Array Bool} (hd : a.depth = b.depth)
    (hne : (Region.ready .any ops l'').isEmpty = false) (hall : (Region.ready .any ops l'').all (fun j => (a.heads ++ b.heads).contains j) = true)
    (ha : ∀ (O : Pend) (e : Env) (w : World) (j f : Nat), (∀ p ∈ O, p.2 w) → PlanT P n ops K a O e w → j ∈ a.heads → j ∈ Region.ready .any ops l'' → a.depth = f + 1 →
      wpOp P ops Q j (fun a' w' => (∀ p ∈ O, waitsO (ops.getD j default) p.1 = false → p.2 w') ∧ wpAnyO P ops Q (O.filter fun p => !waitsO (ops.getD j default) p.1) f (l''.setIfInBounds j true) a' w') (act n e) w)
    (hb : ∀ (O : Pend) (e : Env) (w : World) (j f : Nat), (∀ p ∈ O, p.2 w) → PlanT P n ops K b O e w → j ∈ b.heads → j ∈ Region.ready .any ops l'' → b.depth = f + 1 →
      wpOp P ops Q j (fun a' w' => (∀ p ∈ O, waitsO (ops.getD j default) p.1 = false → p.2 w') ∧ wpAnyO P ops Q (O.filter fun p => !waitsO (ops.getD j default) p.1) f (l''.setIfInBounds j true) a' w') (act n e) w)
    (hpos : 0 < a.depth) (O : Pend) (e : Env) (w : World) (hO : ∀ p ∈ O, p.2 w) (h : PlanT P n ops K a O e w ∧ PlanT P n ops K b O e w) : wpAnyO P ops Q O a.depth l'' (act n e) w := by
  obtain ⟨f, hf⟩ : ∃ f, a.depth = f + 1 := ⟨a.depth - 1, by omega⟩
  rw [hf]
  refine ⟨fun h0 => (by rw [h0] at hne; cases hne), fun j hj => ?_⟩
  have h1 := List.all_eq_true.1 hall j hj
  have h2 : j ∈ a.heads ++ b.heads := by simpa using h1
  rcases List.mem_append.1 h2 with h3 | h3
  · exact ha O e w j f hO h.1 h3 hj hf
  · exact hb O e w j f hO h.2 h3 hj (by omega)

theorem Tr.depth_pos : ∀ (t : Tr) (l : Array Bool), planG ops true t l = true → 0 < t.depth
  | .line σ, l, h => by
    cases σ with
    | nil => simp [planG, offFirst] at h
    | cons p σ => simp [Tr.depth]
  | .fork σ a b, l, h => by
    cases σ with
    | nil =>
      simp only [planG, List.isEmpty_nil, Bool.and_self, if_true, Bool.and_eq_true] at h
      have := Tr.depth_pos a l h.1
      simp [Tr.depth]; exact this
    | cons p σ => simp [Tr.depth]; omega

theorem eff_sound (hn : n ≤ 1000000) (hs : Region.noSelect ops = true) (hQ : ∀ c a w, ¬ Q (.panic c) a w) :
    ∀ (t : Tr) (l : Array Bool), t.even = true → planG ops true t l = true → ∀ (O : Pend) (e : Env) (w : World) (j f : Nat), (∀ p ∈ O, p.2 w) → PlanT P n ops (fun e w => Q .normal (act n e) w) t O e w → j ∈ t.heads → j ∈ Region.ready .any ops l → t.depth = f + 1 →
      wpOp P ops Q j (fun a' w' => (∀ p ∈ O, waitsO (ops.getD j default) p.1 = false → p.2 w') ∧ wpAnyO P ops Q (O.filter fun p => !waitsO (ops.getD j default) p.1) f (l.setIfInBounds j true) a' w') (act n e) w
  | .line σ, l, _, hg, O, e, w, j, f, hO, h, hj, hr, hd => by
    match σ, hg, h, hj, hd with
    | [], hg, _, _, _ => simp [planG, offFirst] at hg
    | (i, true) :: σ, hg, _, _, _ => simp [planG, offFirst] at hg
    | (i, false) :: σ, hg, h, hj, hd =>
      obtain rfl : j = i := by simpa [Tr.heads] using hj
      simp only [planG, offFirst, if_true] at hg
      split at hg
      · rename_i l'' hp
        rw [beq_iff_eq] at hg
        have hfe : f = σ.length + 0 := by simp [Tr.depth] at hd; omega
        subst hfe
        exact eff_step hn hr hO (fun O e w hO h => plan_pre hn hs hQ (f := 0) (fun O e w _ hk => ⟨hg, hk⟩) σ O _ e w hp hO h) h
      · cases hg
  | .fork σ a b, l, hev, hg, O, e, w, j, f, hO, h, hj, hr, hd => by
    simp only [Tr.even, Bool.and_eq_true, beq_iff_eq] at hev
    obtain ⟨⟨hea, heb⟩, hab⟩ := hev
    match σ, hg, h, hj, hd with
    | [], hg, h, hj, hd =>
      simp only [planG, List.isEmpty_nil, Bool.and_self, if_true, Bool.and_eq_true] at hg
      have hd' : a.depth = f + 1 := by simpa [Tr.depth] using hd
      rcases List.mem_append.1 (show j ∈ a.heads ++ b.heads from hj) with h3 | h3
      · exact eff_sound hn hs hQ a l hea hg.1 O e w j f hO h.1 h3 hr hd'
      · exact eff_sound hn hs hQ b l heb hg.2 O e w j f hO h.2 h3 hr (by omega)
    | (i, true) :: σ, hg, _, _, _ => simp [planG, offFirst] at hg
    | (i, false) :: σ, hg, h, hj, hd =>
      obtain rfl : j = i := by simpa [Tr.heads] using hj
      simp only [planG, offFirst, if_true, List.isEmpty_cons, Bool.and_false, Bool.false_eq_true, if_false] at hg
      split at hg
      · rename_i l'' hp
        simp only [Bool.and_eq_true, Bool.not_eq_true'] at hg
        obtain ⟨⟨⟨hne, hall⟩, hga⟩, hgb⟩ := hg
        have hfe : f = σ.length + a.depth := by simp [Tr.depth] at hd; omega
        subst hfe
        exact eff_step hn hr hO (fun O e w hO h => plan_pre hn hs hQ (fun O e w hO hk => fork_step hab hne hall (fun O e w j f hO h1 h2 h3 h4 => eff_sound hn hs hQ a l'' hea hga O e w j f hO h1 h2 h3 h4) (fun O e w j f hO h1 h2 h3 h4 => eff_sound hn hs hQ b l'' heb hgb O e w j f hO h1 h2 h3 h4) (Tr.depth_pos a l'' hga) O e w hO hk) σ O _ e w hp hO h) h
      · cases hg

theorem plan_sound (hn : n ≤ 1000000) (hs : Region.noSelect ops = true) (hQ : ∀ c a w, ¬ Q (.panic c) a w) :
    ∀ (t : Tr) (l : Array Bool), t.even = true → planG ops false t l = true → ∀ (O : Pend) (e : Env) (w : World), (∀ p ∈ O, p.2 w) → PlanT P n ops (fun e w => Q .normal (act n e) w) t O e w → wpAnyO P ops Q O t.depth l (act n e) w
  | .line σ, l, _, hg, O, e, w, hO, h => by
    simp only [planG, offFirst, Bool.false_eq_true, if_false] at hg
    split at hg
    · rename_i l'' hp
      rw [beq_iff_eq] at hg
      exact plan_pre hn hs hQ (f := 0) (fun O e w _ hk => ⟨hg, hk⟩) σ O _ e w hp hO h
    · cases hg
  | .fork σ a b, l, hev, hg, O, e, w, hO, h => by
    simp only [Tr.even, Bool.and_eq_true, beq_iff_eq] at hev
    obtain ⟨⟨hea, heb⟩, hab⟩ := hev
    simp only [planG, offFirst, Bool.false_and, Bool.false_eq_true, if_false] at hg
    split at hg
    · rename_i l'' hp
      simp only [Bool.and_eq_true, Bool.not_eq_true'] at hg
      obtain ⟨⟨⟨hne, hall⟩, hga⟩, hgb⟩ := hg
      exact plan_pre hn hs hQ (fun O e w hO hk => fork_step hab hne hall (fun O e w j f hO h1 h2 h3 h4 => eff_sound hn hs hQ a l'' hea hga O e w j f hO h1 h2 h3 h4) (fun O e w j f hO h1 h2 h3 h4 => eff_sound hn hs hQ b l'' heb hgb O e w j f hO h1 h2 h3 h4) (Tr.depth_pos a l'' hga) O e w hO hk) σ O _ e w hp hO h
    · cases hg

/-- A region walked in the order of the text. -/
theorem plan_text (hn : n ≤ 1000000) : ∀ (σ : List (Nat × Bool)) (O : Pend) (e : Env) (w : World), (∀ p ∈ σ, (ops[p.1]?).isSome = true) →
      Plan P n (fun _ e w => Q .normal (act n e) w) (items ops σ) O e w → wpOps P ops Q (σ.map (·.1)) (act n e) w
  | [], _, _, _, _, h => h
  | (i, b) :: σ, O, e, w, hsome, h => by
    obtain ⟨oi, hoi⟩ := Option.isSome_iff_exists.1 (hsome _ List.mem_cons_self)
    have hσ : ∀ p ∈ σ, (ops[p.1]?).isSome = true := fun p hp => hsome p (List.mem_cons_of_mem _ hp)
    have hit : items ops ((i, b) :: σ) = ⟨i, b, ops.getD i default, gslot ops (ops.getD i default)⟩ :: items ops σ := rfl
    rw [hit, ops_getD hoi] at h
    unfold Plan at h
    rw [gslot_spec e hn] at h
    simp only [List.map_cons, wpOps]
    rw [show ops[i]? = some oi from hoi]
    by_cases hw : Region.wanted oi (yielded ops (act n e).tmps) = true
    · rw [if_pos hw] at h
      simp only [hw, if_true]
      refine .inl ?_
      cases b with
      | true =>
        simp only [if_true] at h
        obtain ⟨v, ⟨hrun, hrest⟩ | ⟨S, hS, hrun, hrest⟩⟩ := h
        · unfold Oper.wp
          rw [act_eval, hrun w]
          simp only [Oper.upon]
          rw [act_put]
          exact plan_text hn σ _ _ _ hσ hrest
        · unfold Oper.wp
          rw [act_eval, hrun w hS]
          simp only [Oper.upon]
          rw [act_put]
          exact plan_text hn σ _ _ _ hσ hrest
      | false =>
        simp only [Bool.false_eq_true, if_false] at h
        exact upon_wp (fun v w' hk => by
          rcases hk with ⟨_, hrest⟩ | ⟨_, hrest⟩
          · exact plan_text hn σ _ _ _ hσ hrest
          · exact plan_text hn σ _ _ _ hσ hrest) h
    · rw [if_neg hw] at h
      simp only [hw, Bool.false_eq_true, if_false]
      rw [act_put]
      exact plan_text hn σ _ _ _ hσ h
end plans

def planTextOk (ops : Array Oper) (n : Nat) (σ : List (Nat × Bool)) : Bool :=
  Nat.ble n 1000000 && (σ.map (·.1) == List.range ops.size)

section regions
variable {P : Program} {n : Nat} {R : Exit → Env → World → Prop} {e : Env} {w : World}

theorem W.regionF {id : Nat} {ops : Array Oper} (hm : P.follows .mixedOrders = true) (t : Tr) (hB : planTok ops n t = true)
    (h : PlanT P n ops (fun e w => R .normal e w) t [] e w.drew) : W P n (.region id ops true) R e w := by
  simp only [planTok, Bool.and_eq_true, beq_iff_eq] at hB
  obtain ⟨⟨⟨⟨hs, hev⟩, hl⟩, hn⟩, hp⟩ := hB
  refine wp_region_any hm (anyO_any _ [] _ _ _ ?_)
  rw [← hl]
  rw [← hl] at hp
  refine plan_sound (by simpa using hn) hs (fun c a w hq => hq) t _ hev hp [] e _ (fun p hp => by cases hp) ?_
  have : ({ w with drawn := w.drawn + 1 } : World) = w.drew := rfl
  rw [this]
  revert h
  generalize w.drew = w1
  intro h
  exact PlanT.mono (fun e w hr => ⟨e, rfl, hr⟩) t [] e w1 h
theorem W.regionD {id : Nat} {ops : Array Oper} (hm : P.follows .mixedOrders = true) (σ : List (Nat × Bool)) (hB : planTok ops n (.line σ) = true)
    (h : Plan P n (fun _ e w => R .normal e w) (items ops σ) [] e w.drew) : W P n (.region id ops true) R e w := W.regionF hm (.line σ) hB h

theorem W.regionT {id : Nat} {ops : Array Oper} (σ : List (Nat × Bool)) (hB : planTextOk ops n σ = true)
    (h : Plan P n (fun _ e w => R .normal e w) (items ops σ) [] e w) : W P n (.region id ops false) R e w := by
  simp only [planTextOk, Bool.and_eq_true, beq_iff_eq] at hB
  obtain ⟨hn, hl⟩ := hB
  refine wp_region ?_
  rw [← hl]
  refine plan_text (by simpa using hn) σ [] e w (fun p hp => ?_) (Plan.mono (fun _ e w hr => ⟨e, rfl, hr⟩) _ _ _ _ h)
  have : p.1 ∈ List.range ops.size := hl ▸ List.mem_map_of_mem hp
  have := List.mem_range.1 this
  simp [this]
end regions
end Go.LW
