/-
  ENGINE, PART 5 (own work): new blocks, addresses, slices, calls, results, entering a function.
-/
import Derived.Test.YtjdgbahjpdopbaaDoorLw4
namespace Go.LW
set_option linter.unusedSimpArgs false
set_option linter.unusedVariables false
set_option linter.unusedSectionVars false
open Go Go.RowKit

/-- The zero of a type, as parts. -/
def zeroIs (P : Program) (t : TypeId) (ps : List (Nat × (Nat → Value))) : Prop := ∃ z, (P.info? t).bind (·.zero) = some z ∧ z.cells = (catL ps).toArray
theorem zeroIs_agg {P : Program} {t : TypeId} {ps : List (Nat × (Nat → Value))} (h : (P.info? t).bind (·.zero) = some (AG ps)) : zeroIs P t ps := ⟨_, h, rfl⟩
theorem zeroIs_one {P : Program} {t : TypeId} {v : Value} (h : (P.info? t).bind (·.zero) = some v) (hv : v.oneCell' = true) : zeroIs P t [(1, fun _ => v)] :=
  ⟨_, h, by cases v <;> first | rfl | cases hv⟩

theorem run_zeroValue {P : Program} {t : TypeId} {z : Value} (h : (P.info? t).bind (·.zero) = some z) (w : World) : (zeroValue t).run P w = .ok z w := by
  cases hi : P.info? t with
  | none => rw [hi] at h; cases h
  | some i =>
    rw [hi] at h
    have hz : i.zero = some z := h
    simp [zeroValue, typeInfo, hi, hz]

section step
variable {P : Program} {n : Nat} {K : Pend → Env → World → Prop} {l : List It} {O : Pend} {e : Env} {w : World} {i ty : Nat} {d : Tmp} {pos : String} {aft : Array Edge} {gd g : Option (Nat × Bool)}
variable {B : Nat} {w0 : World} {L : List Rg}

theorem PartsIn.app {L L' : List Rg} {b o : Nat} {ps : List (Nat × (Nat → Value))} (h : PartsIn L b o ps) (M : List Rg) (hL : L' = M ++ L) : PartsIn L' b o ps := by
  induction h with
  | nil => exact .nil
  | cons i h t ih => exact .cons (M.length + i) (by rw [hL]; rw [List.getElem?_append_right (by omega)]; simpa using h) ih

theorem PIn.app {O : Pend} {L L' : List Rg} (h : PIn O L) (M : List Rg) (hL : L' = M ++ L) : PIn O L' := by
  induction h with
  | nil => exact .nil
  | cons i h t ih => exact .cons (M.length + i) (by rw [hL]; rw [List.getElem?_append_right (by omega)]; simpa using h) (ih hL)
  | tru t ih => exact .tru (ih hL)
  | parts h t ih => exact .parts (h.app M hL) (ih hL)

theorem Plan.alloc (hst : St B w0 L w) {t : TypeId} {ps : List (Nat × (Nat → Value))} (hg : wantedE n e g = true) (hz : zeroIs P t ps) (hO : PIn O L)
    (h : ∀ b w', B ≤ b → St B w0 (rngs b 0 ps ++ L) w' → Plan P n K l O (upd e d (.pointer (some ⟨b, 0, none⟩))) w') :
    Plan P n K (⟨i, false, ⟨some d, .alloc t, ty, pos, aft, gd⟩, g⟩ :: l) O e w := by
  refine Plan.eff hg ?_
  obtain ⟨z, hz1, hz2⟩ := hz
  have hr : (execOp (ev n e) ⟨some d, .alloc t, ty, pos, aft, gd⟩).run P w = .ok (.value (.pointer (some ⟨w.heap.size, 0, none⟩))) (w.alloc (.cells (catL ps).toArray t)) := run_v (by
    simp only [Instr.alloc, Sem.run_bind, run_zeroValue hz1, Result.andThen, newVar, newRow, newObj, hz2]
    rfl)
  rw [hr]
  have h' := hst.alloc ps t
  exact .inl ⟨(hO.app _ rfl).keep h', h _ _ hst.base h'⟩

theorem Plan.boxA (hst : St B w0 L w) {t : TypeId} {x : Operand} {ps : List (Nat × (Nat → Value))} (hg : wantedE n e g = true) (hx : ev n e x = AG ps) (hO : PIn O L)
    (h : ∀ b w', B ≤ b → St B w0 (rngs b 0 ps ++ L) w' → Plan P n K l O (upd e d (.pointer (some ⟨b, 0, none⟩))) w') :
    Plan P n K (⟨i, false, ⟨some d, .box t x, ty, pos, aft, gd⟩, g⟩ :: l) O e w := by
  refine Plan.eff hg ?_
  have hr : (execOp (ev n e) ⟨some d, .box t x, ty, pos, aft, gd⟩).run P w = .ok (.value (.pointer (some ⟨w.heap.size, 0, none⟩))) (w.alloc (.cells (catL ps).toArray t)) := run_v (by
    rw [hx]; rfl)
  rw [hr]
  have h' := hst.alloc ps t
  exact .inl ⟨(hO.app _ rfl).keep h', h _ _ hst.base h'⟩
theorem Plan.box1 (hst : St B w0 L w) {t : TypeId} {x : Operand} {v : Value} (hg : wantedE n e g = true) (hx : ev n e x = v) (hv : v.oneCell' = true) (hO : PIn O L)
    (h : ∀ b w', B ≤ b → St B w0 (⟨some b, 0, 1, fun _ => v, true⟩ :: L) w' → Plan P n K l O (upd e d (.pointer (some ⟨b, 0, none⟩))) w') :
    Plan P n K (⟨i, false, ⟨some d, .box t x, ty, pos, aft, gd⟩, g⟩ :: l) O e w := by
  refine Plan.eff hg ?_
  have hcs : v.cells = #[v] := by cases v <;> first | rfl | cases hv
  have hr : (execOp (ev n e) ⟨some d, .box t x, ty, pos, aft, gd⟩).run P w = .ok (.value (.pointer (some ⟨w.heap.size, 0, none⟩))) (w.alloc (.cells (catL [(1, fun _ => v)]).toArray t)) := run_v (by
    rw [hx]
    simp only [Instr.box, newVar, newRow, newObj, hcs, Sem.run_bind]
    rfl)
  rw [hr]
  have h' := hst.alloc [(1, fun _ => v)] t
  exact .inl ⟨(hO.app _ rfl).keep h', h _ _ hst.base h'⟩

/-! addresses -/
theorem Plan.nilCheck {x : Operand} {a : Addr} (hg : wantedE n e g = true) (hx : ev n e x = .pointer (some a)) (h : Plan P n K l O (upd e d (.pointer (some a))) w) :
    Plan P n K (⟨i, true, ⟨some d, .nilCheck x, ty, pos, aft, gd⟩, g⟩ :: l) O e w :=
  Plan.val hg (fun w => by simp [execOp, hx, pure]) h

def fieldB (P : Program) (t : TypeId) (f off : Nat) : Bool := match P.underlying t with
  | some (.struct fs) => match fs[f]? with
    | some fd => fd.offset == off && (match P.info? fd.type with | some i => !(i.size == 0) | none => false)
    | none => false
  | _ => false

theorem run_fieldAt {t : TypeId} {f off : Nat} {b o : Nat} {w : World} (hf : fieldB P t f off = true) : (Instr.fieldAt t (.pointer (some ⟨b, o, none⟩)) f).run P w = .ok (.pointer (some ⟨b, o + off, none⟩)) w := by
  unfold fieldB at hf
  cases hu : P.underlying t with
  | none => rw [hu] at hf; cases hf
  | some dsc =>
    rw [hu] at hf
    cases dsc <;> try (cases hf; done)
    rename_i fs
    simp only at hf
    cases hfd : fs[f]? with
    | none => rw [hfd] at hf; cases hf
    | some fd =>
      rw [hfd] at hf
      simp only [Bool.and_eq_true, beq_iff_eq] at hf
      obtain ⟨h1, h2⟩ := hf
      cases hi : P.info? fd.type with
      | none => rw [hi] at h2; cases h2
      | some inf =>
        rw [hi] at h2
        have h3 : ¬ inf.size = 0 := by simpa using h2
        simp only [Instr.fieldAt, Sem.run_bind, run_underlying hu w, Result.andThen, hfd, Instr.sureAddr, Sem.run_pure, fieldPlace]
        simp only [sizeOf, typeInfo, Sem.run_bind, run_program, Result.andThen, hi, Sem.run_pure, h3, if_false, ← h1]
        simp only [Addr.add]
        split
        · rename_i h0; simp [h0]
        · rfl
theorem Plan.fieldAddr {t : TypeId} {x : Operand} {b o f : Nat} (off : Nat) (hf : fieldB P t f off = true) (hg : wantedE n e g = true) (hx : ev n e x = .pointer (some ⟨b, o, none⟩))
    (h : Plan P n K l O (upd e d (.pointer (some ⟨b, o + off, none⟩))) w) : Plan P n K (⟨i, true, ⟨some d, .fieldAddr t x f, ty, pos, aft, gd⟩, g⟩ :: l) O e w :=
  Plan.val hg (fun w => run_v (by rw [hx]; exact run_fieldAt hf)) h
/-- the first field -/
theorem Plan.fieldAddr0 {t : TypeId} {x : Operand} {b o f : Nat} (hf : fieldB P t f 0 = true) (hg : wantedE n e g = true) (hx : ev n e x = .pointer (some ⟨b, o, none⟩))
    (h : Plan P n K l O (upd e d (.pointer (some ⟨b, o, none⟩))) w) : Plan P n K (⟨i, true, ⟨some d, .fieldAddr t x f, ty, pos, aft, gd⟩, g⟩ :: l) O e w :=
  Plan.fieldAddr 0 hf hg hx h

def arrB (P : Program) (t : TypeId) (len sz : Nat) : Bool := match P.underlying t with
  | some (.array k el) => k == len && szT P el sz
  | _ => false
def slB (P : Program) (t : TypeId) (sz : Nat) : Bool := match P.underlying t with
  | some (.slice el) => szT P el sz
  | _ => false
theorem arrB_spec {t : TypeId} {len sz : Nat} (h : arrB P t len sz = true) : ∃ el, P.underlying t = some (.array len el) ∧ szT P el sz = true := by
  unfold arrB at h
  cases hu : P.underlying t with
  | none => rw [hu] at h; cases h
  | some dsc =>
    rw [hu] at h
    cases dsc <;> try (cases h; done)
    simp only [Bool.and_eq_true, beq_iff_eq] at h
    exact ⟨_, by rw [h.1], h.2⟩
theorem slB_spec {t : TypeId} {sz : Nat} (h : slB P t sz = true) : ∃ el, P.underlying t = some (.slice el) ∧ szT P el sz = true := by
  unfold slB at h
  cases hu : P.underlying t with
  | none => rw [hu] at h; cases h
  | some dsc =>
    rw [hu] at h
    cases dsc <;> try (cases h; done)
    exact ⟨_, rfl, h⟩

theorem add_addr (b o k : Nat) : (⟨b, o, none⟩ : Addr).add k = ⟨b, o + k, none⟩ := Addr.add_mid b o k

theorem Plan.idxArr {t : TypeId} {x y : Operand} {b o j len sz : Nat} {k : IntKind} (ha : arrB P t len sz = true) (hg : wantedE n e g = true) (hx : ev n e x = .pointer (some ⟨b, o, none⟩)) (hy : ev n e y = .int k (j : Int)) (hj : j < len)
    (h : Plan P n K l O (upd e d (.pointer (some ⟨b, o + j * sz, none⟩))) w) : Plan P n K (⟨i, true, ⟨some d, .indexAddr t x y, ty, pos, aft, gd⟩, g⟩ :: l) O e w :=
  Plan.val hg (fun w => run_v (by
    obtain ⟨el, hu, hs⟩ := arrB_spec ha
    rw [hx, hy]
    have hc : (0 : Int) ≤ (j : Int) ∧ (j : Int) < (len : Int) := by omega
    simp only [Instr.indexAt, asIntOf, Sem.run_bind, Sem.run_pure, Result.andThen, run_underlying hu w, Instr.sureAddr, if_pos hc, szT_spec hs, Int.toNat_natCast, add_addr])) h
/-- elements of one cell -/
theorem Plan.idxArr1 {t : TypeId} {x y : Operand} {b o j len : Nat} {k : IntKind} (ha : arrB P t len 1 = true) (hg : wantedE n e g = true) (hx : ev n e x = .pointer (some ⟨b, o, none⟩)) (hy : ev n e y = .int k (j : Int)) (hj : j < len)
    (h : Plan P n K l O (upd e d (.pointer (some ⟨b, o + j, none⟩))) w) : Plan P n K (⟨i, true, ⟨some d, .indexAddr t x y, ty, pos, aft, gd⟩, g⟩ :: l) O e w :=
  Plan.idxArr ha hg hx hy hj (by rw [Nat.mul_one]; exact h)
theorem Plan.idxSl {t : TypeId} {x y : Operand} {b o j len cap sz : Nat} {k : IntKind} (ha : slB P t sz = true) (hg : wantedE n e g = true) (hx : ev n e x = .slice (some ⟨b, o, none⟩) len cap) (hy : ev n e y = .int k (j : Int)) (hj : j < len)
    (h : Plan P n K l O (upd e d (.pointer (some ⟨b, o + j * sz, none⟩))) w) : Plan P n K (⟨i, true, ⟨some d, .indexAddr t x y, ty, pos, aft, gd⟩, g⟩ :: l) O e w :=
  Plan.val hg (fun w => run_v (by
    obtain ⟨el, hu, hs⟩ := slB_spec ha
    rw [hx, hy]
    have hc : (0 : Int) ≤ (j : Int) ∧ (j : Int) < (len : Int) := by omega
    simp only [Instr.indexAt, asIntOf, Sem.run_bind, Sem.run_pure, Result.andThen, run_underlying hu w, if_pos hc, szT_spec hs, Int.toNat_natCast, add_addr])) h
theorem Plan.idxSl1 {t : TypeId} {x y : Operand} {b o j len cap : Nat} {k : IntKind} (ha : slB P t 1 = true) (hg : wantedE n e g = true) (hx : ev n e x = .slice (some ⟨b, o, none⟩) len cap) (hy : ev n e y = .int k (j : Int)) (hj : j < len)
    (h : Plan P n K l O (upd e d (.pointer (some ⟨b, o + j, none⟩))) w) : Plan P n K (⟨i, true, ⟨some d, .indexAddr t x y, ty, pos, aft, gd⟩, g⟩ :: l) O e w :=
  Plan.idxSl ha hg hx hy hj (by rw [Nat.mul_one]; exact h)

/-! calls -/
theorem run_call {f : FuncId} {ρ : Operand → Value} {args : Array Operand} {at' : Array TypeId} {dst : Option Tmp} (hok : callB P f = true) (w : World) :
    (execOp ρ ⟨dst, .call ⟨.value (.func f), args, at'⟩, ty, pos, aft, gd⟩).run P w = .ok (.enter f (args.map ρ)) w ∨ ρ (.func f) ≠ .func (.func f) #[] #[] := by
  by_cases hρ : ρ (.func f) = .func (.func f) #[] #[]
  · refine .inl ?_
    unfold callB at hok
    cases hf : P.funcs[f]? with
    | none => rw [hf] at hok; cases hok
    | some fn =>
      rw [hf] at hok
      simp only [Bool.and_eq_true, Bool.not_eq_true'] at hok
      simp only [execOp, resolve, hρ, Deferred.ofValue, Sem.run_bind, Sem.run_pure, Result.andThen, invoke, callFunc, run_program, hf, hok.1, hok.2, Bool.false_eq_true, if_false]
      simp
  · exact .inr hρ

theorem Plan.call {f : FuncId} {args : Array Operand} {at' : Array TypeId} {dst : Option Tmp} {vs : List Value} {R : Ending → World → Prop} (hg : wantedE n e g = true) (hok : callB P f = true) (hargs : args.toList.map (ev n e) = vs)
    (hc : Calls P f vs.toArray w R)
    (hR : ∀ x w', R x w' → ∃ v, x = .returned v ∧ (((∀ p ∈ O, p.2 w → p.2 w') ∧ Plan P n K l O (updO e dst v) w') ∨ (O.all (fun p => waitsO ⟨dst, .call ⟨.value (.func f), args, at'⟩, ty, pos, aft, gd⟩ p.1) = true ∧ Plan P n K l [] (updO e dst v) w'))) :
    Plan P n K (⟨i, false, ⟨dst, .call ⟨.value (.func f), args, at'⟩, ty, pos, aft, gd⟩, g⟩ :: l) O e w := by
  refine Plan.eff hg ?_
  rcases run_call (P := P) (ty := ty) (pos := pos) (aft := aft) (gd := gd) (ρ := ev n e) (args := args) (at' := at') (dst := dst) hok w with hr | hr
  · rw [hr]
    show Calls P f (args.map (ev n e)) w _
    have : args.map (ev n e) = vs.toArray := by
      rw [← hargs, ← Array.toList_map]
    rw [this]
    exact hc.mono hR
  · exact absurd rfl hr

/-- a callee that leaves the world alone -/
theorem Plan.call0 {f : FuncId} {args : Array Operand} {at' : Array TypeId} {vs : List Value} {v : Value} (hg : wantedE n e g = true) (hok : callB P f = true) (hargs : args.toList.map (ev n e) = vs)
    (hc : Calls P f vs.toArray w fun x w' => x = .returned v ∧ w' = w) (h : Plan P n K l O (upd e d v) w) :
    Plan P n K (⟨i, false, ⟨some d, .call ⟨.value (.func f), args, at'⟩, ty, pos, aft, gd⟩, g⟩ :: l) O e w :=
  Plan.call hg hok hargs hc fun x w' ⟨hx, hw⟩ => ⟨v, hx, .inl ⟨by subst hw; exact fun _ _ h => h, by subst hw; exact h⟩⟩
/-- a callee that hands back a value and new ranges -/
theorem Plan.callS {f : FuncId} {args : Array Operand} {at' : Array TypeId} {vs : List Value} {v : Value} {L' : List Rg} (hg : wantedE n e g = true) (hok : callB P f = true) (hargs : args.toList.map (ev n e) = vs)
    (hc : Calls P f vs.toArray w fun x w' => x = .returned v ∧ St B w0 L' w') (hO : PIn O L') (h : ∀ w', St B w0 L' w' → Plan P n K l O (upd e d v) w') :
    Plan P n K (⟨i, false, ⟨some d, .call ⟨.value (.func f), args, at'⟩, ty, pos, aft, gd⟩, g⟩ :: l) O e w :=
  Plan.call hg hok hargs hc fun _ w' ⟨hx, hw⟩ => ⟨v, hx, .inl ⟨hO.keep hw, h w' hw⟩⟩
/-- .. behind which all that was read before is waited for -/
theorem Plan.callW {f : FuncId} {args : Array Operand} {at' : Array TypeId} {vs : List Value} {v : Value} {L' : List Rg} (hg : wantedE n e g = true) (hok : callB P f = true) (hargs : args.toList.map (ev n e) = vs)
    (hc : Calls P f vs.toArray w fun x w' => x = .returned v ∧ St B w0 L' w') (hO : O.all (fun p => waitsO ⟨some d, .call ⟨.value (.func f), args, at'⟩, ty, pos, aft, gd⟩ p.1) = true) (h : ∀ w', St B w0 L' w' → Plan P n K l [] (upd e d v) w') :
    Plan P n K (⟨i, false, ⟨some d, .call ⟨.value (.func f), args, at'⟩, ty, pos, aft, gd⟩, g⟩ :: l) O e w :=
  Plan.call hg hok hargs hc fun _ w' ⟨hx, hw⟩ => ⟨v, hx, .inr ⟨hO, h w' hw⟩⟩
/-- a callee that hands back something of which a fact is known -/
theorem Plan.callE {f : FuncId} {args : Array Operand} {at' : Array TypeId} {vs : List Value} {α : Sort _} {v : α → Value} {L' : α → List Rg} {Φ : α → World → Prop} (hg : wantedE n e g = true) (hok : callB P f = true) (hargs : args.toList.map (ev n e) = vs)
    (hc : Calls P f vs.toArray w fun x w' => ∃ a, x = .returned (v a) ∧ St B w0 (L' a) w' ∧ Φ a w') (hO : ∀ a, PIn O (L' a)) (h : ∀ a w', St B w0 (L' a) w' → Φ a w' → Plan P n K l O (upd e d (v a)) w') :
    Plan P n K (⟨i, false, ⟨some d, .call ⟨.value (.func f), args, at'⟩, ty, pos, aft, gd⟩, g⟩ :: l) O e w :=
  Plan.call hg hok hargs hc fun _ w' ⟨a, hx, hw, hp⟩ => ⟨v a, hx, .inl ⟨(hO a).keep hw, h a w' hw hp⟩⟩

theorem Plan.extract {x : Operand} {k : Nat} {vs : Array Value} {v : Value} (hg : wantedE n e g = true) (hx : ev n e x = .tuple vs) (hv : vs[k]? = some v) (h : Plan P n K l O (upd e d v) w) :
    Plan P n K (⟨i, true, ⟨some d, .extract x k, ty, pos, aft, gd⟩, g⟩ :: l) O e w :=
  Plan.val hg (fun w => run_v (by rw [hx]; simp [Instr.extract, hv])) h
end step

/-! entering and leaving a function -/
def RetOk (P : Program) (n : Nat) (fn : Func) (R : Ending → World → Prop) (e : Env) (w : World) : Prop := ∃ v, (results fn (act n e).tmps).run P w = .ok v w ∧ R (.returned v) w
def finR (P : Program) (n : Nat) (fn : Func) (R : Ending → World → Prop) : Exit → Env → World → Prop
  | .normal, e, w => RetOk P n fn R e w
  | .ret, e, w => RetOk P n fn R e w
  | _, _, _ => False

theorem W.enter {P : Program} {f : FuncId} {fn : Func} {c : Code} {args : Array Value} {w : World} {R : Ending → World → Prop} (n : Nat) (hf : P.funcs[f]? = some fn) (hb : fn.body = some c) (hn : fn.ntmps = n) (ha : Nat.ble args.size n = true)
    (h : W P n c (finR P n fn R) (fun i => args.getD i undef) w) : Calls P f args w R := by
  refine calls_of_wp hf hb ?_
  rw [hn, act_enter n args (by simpa using ha)]
  refine wp_mono h fun x a w hq => ?_
  cases x with
  | normal => obtain ⟨e, rfl, v, h1, h2⟩ := hq; exact ⟨rfl, v, h1, h2⟩
  | ret => obtain ⟨e, rfl, v, h1, h2⟩ := hq; exact ⟨rfl, v, h1, h2⟩
  | exit id => obtain ⟨e, _, h⟩ := hq; exact h.elim
  | goto l => obtain ⟨e, _, h⟩ := hq; exact h.elim
  | panic ch => exact hq.elim
  | outgrown => exact hq.elim

section exits
variable {P : Program} {n : Nat} {fn : Func} {Rf : Ending → World → Prop} {K : Env → World → Prop} {R : Exit → Env → World → Prop} {e : Env} {w : World} {id id' : Nat}
theorem finR_ret (h : RetOk P n fn Rf e w) : finR P n fn Rf .ret e w := h
theorem finR_norm (h : RetOk P n fn Rf e w) : finR P n fn Rf .normal e w := h
theorem thenR_ret (h : R .ret e w) : thenR K R .ret e w := h
theorem thenR_exit (h : R (.exit id) e w) : thenR K R (.exit id) e w := h
theorem thenR_norm (h : K e w) : thenR K R .normal e w := h
theorem blockR_ret (h : R .ret e w) : blockR id R .ret e w := h
theorem blockR_norm (h : R .normal e w) : blockR id R .normal e w := h
theorem blockR_here (h : R .normal e w) : blockR id R (.exit id) e w := by
  show (if id = id then R .normal e w else R (.exit id) e w)
  rw [if_pos rfl]; exact h
theorem blockR_out (hne : (id' == id) = false) (h : R (.exit id') e w) : blockR id R (.exit id') e w := by
  show (if id' = id then R .normal e w else R (.exit id') e w)
  rw [if_neg (by simpa using hne)]; exact h
end exits

inductive Res (P : Program) (n : Nat) (e : Env) (w : World) : List ResultVar → List Value → Prop
  | nil : Res P n e w [] []
  | tmp {t : Tmp} {v : Value} {rs : List ResultVar} {vs : List Value} (h : ev n e (.tmp t) = v) (r : Res P n e w rs vs) : Res P n e w (.tmp t :: rs) (v :: vs)
  | cell {p : Tmp} {t : TypeId} {a : Addr} {v : Value} {rs : List ResultVar} {vs : List Value} (h : ev n e (.tmp p) = .pointer (some a)) (hv : (Instr.loadAt t (.pointer (some a))).run P w = .ok v w) (r : Res P n e w rs vs) : Res P n e w (.cell p t :: rs) (v :: vs)

def packR : List Value → Value
  | [v] => v
  | vs => .tuple vs.toArray

def resOf (tmps : Array Value) : ResultVar → Sem Value
  | .tmp t => pure (tmps.getD t undef)
  | .cell a t => do loadVar t (← asAddr (tmps.getD a undef))
theorem results_eq (fn : Func) (tmps : Array Value) : results fn tmps = (do let vs ← fn.results.mapM (resOf tmps); pure (if h : vs.size = 1 then vs[0] else .tuple vs)) := by
  unfold results
  congr 1
theorem results_run {P : Program} {n : Nat} {e : Env} {w : World} {fn : Func} {vs : List Value} (h : Res P n e w fn.results.toList vs) : (results fn (act n e).tmps).run P w = .ok (packR vs) w := by
  have key : ∀ (rs : List ResultVar) (vs : List Value), Res P n e w rs vs → (rs.mapM (resOf (act n e).tmps)).run P w = Result.ok vs w := by
    intro rs vs hr
    induction hr with
    | nil => rfl
    | @tmp t v rs vs h r ih =>
      have h1 : (act n e).tmps.getD t undef = v := by rw [← h, ← act_eval]; rfl
      rw [List.mapM_cons]
      simp only [Sem.run_bind, resOf, h1, Sem.run_pure, Result.andThen, ih]
    | @cell p t a v rs vs h hv r ih =>
      have h1 : (act n e).tmps.getD p undef = .pointer (some a) := by rw [← h, ← act_eval]; rfl
      have h2 : (loadVar t a).run P w = .ok v w := by simpa [Instr.loadAt, Instr.sureAddr] using hv
      have h3 : (resOf (act n e).tmps (.cell p t)).run P w = Result.ok v w := by
        show (do loadVar t (← asAddr ((act n e).tmps.getD p undef)) : Sem Value).run P w = _
        rw [h1]
        exact h2
      rw [List.mapM_cons]
      simp only [Sem.run_bind, h3, Sem.run_pure, Result.andThen, ih]
  rw [results_eq, Array.mapM_eq_mapM_toList, Sem.run_bind, Sem.run_map, key _ _ h]
  simp only [Result.andThen]
  match vs with
  | [] => rfl
  | [v] => rfl
  | u :: v :: r => simp [packR]

theorem RetOk.mk {P : Program} {n : Nat} {fn : Func} {R : Ending → World → Prop} {e : Env} {w : World} {vs : List Value} (h : Res P n e w fn.results.toList vs) (hR : R (.returned (packR vs)) w) : RetOk P n fn R e w :=
  ⟨_, results_run h, hR⟩

/-- a result that lies in memory: an array or a struct -/
theorem Res.agg {P : Program} {n : Nat} {e : Env} {w : World} {B : Nat} {w0 : World} {L : List Rg} (hst : St B w0 L w) {p : Tmp} {t : TypeId} {b o : Nat} {ps : List (Nat × (Nat → Value))} {rs : List ResultVar} {vs : List Value} (h : ev n e (.tmp p) = .pointer (some ⟨b, o, none⟩))
    (hL : PartsIn L b o ps) (ht : aggT P t (ps.map (·.1)).sum = true) (r : Res P n e w rs vs) : Res P n e w (.cell p t :: rs) (AG ps :: vs) :=
  .cell h (by
    obtain ⟨dd, hu, hd, hi⟩ := aggT_spec ht
    exact run_loadAt_mid w b o t (catL ps) dd (hL.cells hst) hu hd (by rw [catL_length]; exact hi)) r
end Go.LW
