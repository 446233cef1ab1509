/-
  ENGINE, PART 2 (own work): single operations that touch no memory, as steps of a plan.
-/
import Derived.Test.YtjdgbahjpdopbaaDoorLw1
namespace Go.LW
set_option linter.unusedSimpArgs false
set_option linter.unusedVariables false
set_option linter.unusedSectionVars false
open Go Go.RowKit

@[reducible] def VN (m : Nat) : Value := .int .i64 (m : Int)
@[reducible] def VU (k : IntKind) {n : Nat} (X : BitVec n) : Value := .int k (X.toNat : Int)

/-- A kind of unsigned numbers of n bits. -/
inductive UK : IntKind → Nat → Prop
  | u8 : UK .u8 8
  | u16 : UK .u16 16
  | u32 : UK .u32 32
  | u64 : UK .u64 64

theorem UK.wrap {k : IntKind} {n : Nat} (h : UK k n) (x : Int) : k.wrap x = x % (2 ^ n : Nat) := by
  cases h <;> simp [IntKind.wrap, IntKind.signed, IntKind.bits]
theorem UK.bits {k : IntKind} {n : Nat} (h : UK k n) : k.bits = n := by cases h <;> rfl
theorem UK.not_signed {k : IntKind} {n : Nat} (h : UK k n) : k.signed = false := by cases h <;> rfl
theorem UK.max {k : IntKind} {n : Nat} (h : UK k n) : k.max = 2 ^ n - 1 := by cases h <;> rfl

theorem UK.back {k : IntKind} {n : Nat} (h : UK k n) (Z : BitVec k.bits) : k.wrap (Z.toNat : Int) = (Z.toNat : Int) := by
  have h1 := Z.isLt
  have h2 : ((Z.toNat % 2 ^ n : Nat) : Int) = (Z.toNat : Int) := by
    have h3 : Z.toNat < 2 ^ n := by cases h <;> exact h1
    rw [Nat.mod_eq_of_lt h3]
  rw [h.wrap, ← Int.natCast_emod]; exact h2

theorem wrap_i64_in (n : Int) (h : -9223372036854775808 ≤ n ∧ n ≤ 9223372036854775807) : IntKind.i64.wrap n = n := IntWalk.i64_in n h

theorem run_v {P : Program} {s : Sem Value} {w w' : World} {v : Value} (h : s.run P w = .ok v w') : (do pure (Next.value (← s)) : Sem Next).run P w = .ok (.value v) w' := by
  rw [Sem.run_bind, h]; rfl
theorem run_u {P : Program} {s : Sem Unit} {w w' : World} (h : s.run P w = .ok () w') : (do s; pure Next.skip : Sem Next).run P w = .ok .skip w' := by
  rw [Sem.run_bind, h]; rfl
theorem run_bin {P : Program} {op : BinOp} {ρ : Operand → Value} {t yt ty : TypeId} {x y : Operand} {d : Option Tmp} {pos : String} {aft : Array Edge} {gd : Option (Nat × Bool)} {k : IntKind} {a b : Int} {v : Value} {w : World}
    (hx : ρ x = .int k a) (hy : ρ y = .int k b) (h : (binOp op t (.int k a) (.int k b)).run P w = .ok v w) : (execOp ρ ⟨d, .binOp op t x y yt, ty, pos, aft, gd⟩).run P w = .ok (.value v) w := by
  refine run_v ?_
  rw [hx, hy]
  have hq : (eqGuard op t x y (.int k a) (.int k b)).run P w = .ok () w := by
    unfold eqGuard; cases op <;> rfl
  rw [Sem.run_bind, hq]
  exact h

section step
variable {P : Program} {n : Nat} {K : Pend → Env → World → Prop} {l : List It} {O : Pend} {e : Env} {w : World} {i ty : Nat} {d : Tmp} {pos : String} {aft : Array Edge} {gd g : Option (Nat × Bool)}

theorem Plan.val {op : Op} {v : Value} (hg : wantedE n e g = true) (hv : ∀ w, (execOp (ev n e) ⟨some d, op, ty, pos, aft, gd⟩).run P w = .ok (.value v) w)
    (h : Plan P n K l O (upd e d v) w) : Plan P n K (⟨i, true, ⟨some d, op, ty, pos, aft, gd⟩, g⟩ :: l) O e w := by
  unfold Plan
  rw [if_pos hg]
  exact ⟨v, .inl ⟨hv, h⟩⟩

/-- An operation whose guard says no. -/
theorem Plan.passed {st : Bool} {op : Op} (hg : wantedE n e g = false) (h : Plan P n K l O (upd e d undef) w) : Plan P n K (⟨i, st, ⟨some d, op, ty, pos, aft, gd⟩, g⟩ :: l) O e w := by
  unfold Plan
  rw [if_neg (by rw [hg]; exact Bool.false_ne_true)]
  exact h
theorem Plan.passed0 {st : Bool} {op : Op} (hg : wantedE n e g = false) (h : Plan P n K l O e w) : Plan P n K (⟨i, st, ⟨none, op, ty, pos, aft, gd⟩, g⟩ :: l) O e w := by
  unfold Plan
  rw [if_neg (by rw [hg]; exact Bool.false_ne_true)]
  exact h

theorem Plan.nil (h : K O e w) : Plan P n K [] O e w := h
theorem PlanT.toLine {ops : Array Oper} {K : Env → World → Prop} {σ : List (Nat × Bool)} (h : Plan P n (fun _ e w => K e w) (items ops σ) O e w) : PlanT P n ops K (.line σ) O e w := h
theorem PlanT.toFork {ops : Array Oper} {K : Env → World → Prop} {σ : List (Nat × Bool)} {a b : Tr} (h : Plan P n (fun O e w => PlanT P n ops K a O e w ∧ PlanT P n ops K b O e w) (items ops σ) O e w) : PlanT P n ops K (.fork σ a b) O e w := h
theorem Plan.forked {ops : Array Oper} {K : Env → World → Prop} {a b : Tr} (h1 : PlanT P n ops K a O e w) (h2 : PlanT P n ops K b O e w) : Plan P n (fun O e w => PlanT P n ops K a O e w ∧ PlanT P n ops K b O e w) [] O e w := ⟨h1, h2⟩

/-! moves: by the value's shape (so that what is read is written out) -/
theorem Plan.move {x : Operand} {v : Value} (hg : wantedE n e g = true) (hx : ev n e x = v) (h : Plan P n K l O (upd e d v) w) : Plan P n K (⟨i, true, ⟨some d, .move x, ty, pos, aft, gd⟩, g⟩ :: l) O e w :=
  Plan.val hg (fun w => by simp [execOp, hx, pure]) h
theorem Plan.assign {x : Operand} {v : Value} (hg : wantedE n e g = true) (hx : ev n e x = v) (h : Plan P n K l O (upd e d v) w) : Plan P n K (⟨i, true, ⟨some d, .assign x, ty, pos, aft, gd⟩, g⟩ :: l) O e w :=
  Plan.val hg (fun w => by simp [execOp, hx, pure]) h
theorem Plan.move_int {x : Operand} {k : IntKind} {a : Int} (hg : wantedE n e g = true) (hx : ev n e x = .int k a) (h : Plan P n K l O (upd e d (.int k a)) w) : Plan P n K (⟨i, true, ⟨some d, .move x, ty, pos, aft, gd⟩, g⟩ :: l) O e w := Plan.move hg hx h
theorem Plan.assign_int {x : Operand} {k : IntKind} {a : Int} (hg : wantedE n e g = true) (hx : ev n e x = .int k a) (h : Plan P n K l O (upd e d (.int k a)) w) : Plan P n K (⟨i, true, ⟨some d, .assign x, ty, pos, aft, gd⟩, g⟩ :: l) O e w := Plan.assign hg hx h
theorem Plan.move_bool {x : Operand} {b : Bool} (hg : wantedE n e g = true) (hx : ev n e x = .bool b) (h : Plan P n K l O (upd e d (.bool b)) w) : Plan P n K (⟨i, true, ⟨some d, .move x, ty, pos, aft, gd⟩, g⟩ :: l) O e w := Plan.move hg hx h
theorem Plan.assign_bool {x : Operand} {b : Bool} (hg : wantedE n e g = true) (hx : ev n e x = .bool b) (h : Plan P n K l O (upd e d (.bool b)) w) : Plan P n K (⟨i, true, ⟨some d, .assign x, ty, pos, aft, gd⟩, g⟩ :: l) O e w := Plan.assign hg hx h
theorem Plan.move_ptr {x : Operand} {p : Option Addr} (hg : wantedE n e g = true) (hx : ev n e x = .pointer p) (h : Plan P n K l O (upd e d (.pointer p)) w) : Plan P n K (⟨i, true, ⟨some d, .move x, ty, pos, aft, gd⟩, g⟩ :: l) O e w := Plan.move hg hx h
theorem Plan.assign_ptr {x : Operand} {p : Option Addr} (hg : wantedE n e g = true) (hx : ev n e x = .pointer p) (h : Plan P n K l O (upd e d (.pointer p)) w) : Plan P n K (⟨i, true, ⟨some d, .assign x, ty, pos, aft, gd⟩, g⟩ :: l) O e w := Plan.assign hg hx h
theorem Plan.move_slice {x : Operand} {p : Option Addr} {a c : Nat} (hg : wantedE n e g = true) (hx : ev n e x = .slice p a c) (h : Plan P n K l O (upd e d (.slice p a c)) w) : Plan P n K (⟨i, true, ⟨some d, .move x, ty, pos, aft, gd⟩, g⟩ :: l) O e w := Plan.move hg hx h
theorem Plan.assign_slice {x : Operand} {p : Option Addr} {a c : Nat} (hg : wantedE n e g = true) (hx : ev n e x = .slice p a c) (h : Plan P n K l O (upd e d (.slice p a c)) w) : Plan P n K (⟨i, true, ⟨some d, .assign x, ty, pos, aft, gd⟩, g⟩ :: l) O e w := Plan.assign hg hx h
theorem Plan.move_string {x : Operand} {s : ByteArray} (hg : wantedE n e g = true) (hx : ev n e x = .string s) (h : Plan P n K l O (upd e d (.string s)) w) : Plan P n K (⟨i, true, ⟨some d, .move x, ty, pos, aft, gd⟩, g⟩ :: l) O e w := Plan.move hg hx h
theorem Plan.assign_string {x : Operand} {s : ByteArray} (hg : wantedE n e g = true) (hx : ev n e x = .string s) (h : Plan P n K l O (upd e d (.string s)) w) : Plan P n K (⟨i, true, ⟨some d, .assign x, ty, pos, aft, gd⟩, g⟩ :: l) O e w := Plan.assign hg hx h
theorem Plan.move_agg {x : Operand} {s : Array Value} (hg : wantedE n e g = true) (hx : ev n e x = .agg s) (h : Plan P n K l O (upd e d (.agg s)) w) : Plan P n K (⟨i, true, ⟨some d, .move x, ty, pos, aft, gd⟩, g⟩ :: l) O e w := Plan.move hg hx h
theorem Plan.assign_agg {x : Operand} {s : Array Value} (hg : wantedE n e g = true) (hx : ev n e x = .agg s) (h : Plan P n K l O (upd e d (.agg s)) w) : Plan P n K (⟨i, true, ⟨some d, .assign x, ty, pos, aft, gd⟩, g⟩ :: l) O e w := Plan.assign hg hx h
theorem Plan.move_map {x : Operand} {r : Option Nat} (hg : wantedE n e g = true) (hx : ev n e x = .map r) (h : Plan P n K l O (upd e d (.map r)) w) : Plan P n K (⟨i, true, ⟨some d, .move x, ty, pos, aft, gd⟩, g⟩ :: l) O e w := Plan.move hg hx h
theorem Plan.assign_map {x : Operand} {r : Option Nat} (hg : wantedE n e g = true) (hx : ev n e x = .map r) (h : Plan P n K l O (upd e d (.map r)) w) : Plan P n K (⟨i, true, ⟨some d, .assign x, ty, pos, aft, gd⟩, g⟩ :: l) O e w := Plan.assign hg hx h
theorem Plan.move_tuple {x : Operand} {s : Array Value} (hg : wantedE n e g = true) (hx : ev n e x = .tuple s) (h : Plan P n K l O (upd e d (.tuple s)) w) : Plan P n K (⟨i, true, ⟨some d, .move x, ty, pos, aft, gd⟩, g⟩ :: l) O e w := Plan.move hg hx h

/-! numbers -/
theorem Plan.arith {op : BinOp} {t yt : TypeId} {x y : Operand} {k : IntKind} {a b r : Int} (hg : wantedE n e g = true) (hx : ev n e x = .int k a) (hy : ev n e y = .int k b)
    (hr : (match op with | .add => k.wrap (a + b) | .sub => k.wrap (a - b) | .mul => k.wrap (a * b) | _ => r + 1) = r)
    (h : Plan P n K l O (upd e d (.int k r)) w) : Plan P n K (⟨i, true, ⟨some d, .binOp op t x y yt, ty, pos, aft, gd⟩, g⟩ :: l) O e w :=
  Plan.val hg (fun w => by
    cases op <;> first | (exfalso; simp only at hr; omega) | (simp only at hr; subst hr; exact run_bin hx hy (by simp [binOp, Op.intArith, pure, Sem.run]))) h

theorem Plan.addN {t yt : TypeId} {x y : Operand} {a b : Nat} (hg : wantedE n e g = true) (hx : ev n e x = VN a) (hy : ev n e y = VN b) (hb : a + b < 9223372036854775808)
    (h : Plan P n K l O (upd e d (VN (a + b))) w) : Plan P n K (⟨i, true, ⟨some d, .binOp .add t x y yt, ty, pos, aft, gd⟩, g⟩ :: l) O e w :=
  Plan.arith hg hx hy (by show _ = ((a + b : Nat) : Int); simp only; rw [wrap_i64_in _ (by omega)]; omega) h
theorem Plan.subN {t yt : TypeId} {x y : Operand} {a b : Nat} (hg : wantedE n e g = true) (hx : ev n e x = VN a) (hy : ev n e y = VN b) (hb : b ≤ a ∧ a < 9223372036854775808)
    (h : Plan P n K l O (upd e d (VN (a - b))) w) : Plan P n K (⟨i, true, ⟨some d, .binOp .sub t x y yt, ty, pos, aft, gd⟩, g⟩ :: l) O e w :=
  Plan.arith hg hx hy (by show _ = ((a - b : Nat) : Int); simp only; rw [wrap_i64_in _ (by omega)]; omega) h
theorem Plan.mulN {t yt : TypeId} {x y : Operand} {a b : Nat} (hg : wantedE n e g = true) (hx : ev n e x = VN a) (hy : ev n e y = VN b) (hb : a * b < 9223372036854775808)
    (h : Plan P n K l O (upd e d (VN (a * b))) w) : Plan P n K (⟨i, true, ⟨some d, .binOp .mul t x y yt, ty, pos, aft, gd⟩, g⟩ :: l) O e w :=
  Plan.arith hg hx hy (by show _ = ((a * b : Nat) : Int); simp only; rw [wrap_i64_in _ (by rw [← Int.natCast_mul]; omega)]; rw [Int.natCast_mul]) h
theorem Plan.addI {t yt : TypeId} {x y : Operand} {a b : Int} (hg : wantedE n e g = true) (hx : ev n e x = .int .i64 a) (hy : ev n e y = .int .i64 b) (hb : -9223372036854775808 ≤ a + b ∧ a + b ≤ 9223372036854775807)
    (h : Plan P n K l O (upd e d (.int .i64 (a + b))) w) : Plan P n K (⟨i, true, ⟨some d, .binOp .add t x y yt, ty, pos, aft, gd⟩, g⟩ :: l) O e w :=
  Plan.arith hg hx hy (wrap_i64_in _ hb) h
theorem Plan.subI {t yt : TypeId} {x y : Operand} {a b : Int} (hg : wantedE n e g = true) (hx : ev n e x = .int .i64 a) (hy : ev n e y = .int .i64 b) (hb : -9223372036854775808 ≤ a - b ∧ a - b ≤ 9223372036854775807)
    (h : Plan P n K l O (upd e d (.int .i64 (a - b))) w) : Plan P n K (⟨i, true, ⟨some d, .binOp .sub t x y yt, ty, pos, aft, gd⟩, g⟩ :: l) O e w :=
  Plan.arith hg hx hy (wrap_i64_in _ hb) h
theorem Plan.mulI {t yt : TypeId} {x y : Operand} {a b : Int} (hg : wantedE n e g = true) (hx : ev n e x = .int .i64 a) (hy : ev n e y = .int .i64 b) (hb : -9223372036854775808 ≤ a * b ∧ a * b ≤ 9223372036854775807)
    (h : Plan P n K l O (upd e d (.int .i64 (a * b))) w) : Plan P n K (⟨i, true, ⟨some d, .binOp .mul t x y yt, ty, pos, aft, gd⟩, g⟩ :: l) O e w :=
  Plan.arith hg hx hy (wrap_i64_in _ hb) h
theorem Plan.addU {t yt : TypeId} {x y : Operand} {k : IntKind} {m : Nat} (hk : UK k m) {X Y : BitVec m} (hg : wantedE n e g = true) (hx : ev n e x = VU k X) (hy : ev n e y = VU k Y)
    (h : Plan P n K l O (upd e d (VU k (X + Y))) w) : Plan P n K (⟨i, true, ⟨some d, .binOp .add t x y yt, ty, pos, aft, gd⟩, g⟩ :: l) O e w :=
  Plan.arith hg hx hy (by simp only; rw [hk.wrap, BitVec.toNat_add]; simp) h
theorem Plan.subU {t yt : TypeId} {x y : Operand} {k : IntKind} {m : Nat} (hk : UK k m) {X Y : BitVec m} (hg : wantedE n e g = true) (hx : ev n e x = VU k X) (hy : ev n e y = VU k Y)
    (h : Plan P n K l O (upd e d (VU k (X - Y))) w) : Plan P n K (⟨i, true, ⟨some d, .binOp .sub t x y yt, ty, pos, aft, gd⟩, g⟩ :: l) O e w :=
  Plan.arith hg hx hy (by
    simp only; rw [hk.wrap, BitVec.toNat_sub]
    have h1 := X.isLt; have h2 := Y.isLt
    rw [Int.natCast_emod]
    rw [show (((2 ^ m - Y.toNat + X.toNat : Nat)) : Int) = (X.toNat : Int) - Y.toNat + (2 ^ m : Nat) from by omega]
    rw [Int.add_emod_right]) h
theorem Plan.mulU {t yt : TypeId} {x y : Operand} {k : IntKind} {m : Nat} (hk : UK k m) {X Y : BitVec m} (hg : wantedE n e g = true) (hx : ev n e x = VU k X) (hy : ev n e y = VU k Y)
    (h : Plan P n K l O (upd e d (VU k (X * Y))) w) : Plan P n K (⟨i, true, ⟨some d, .binOp .mul t x y yt, ty, pos, aft, gd⟩, g⟩ :: l) O e w :=
  Plan.arith hg hx hy (by simp only; rw [hk.wrap, BitVec.toNat_mul]; simp) h

/-! quotients and rests -/
theorem Plan.quoN {t yt : TypeId} {x y : Operand} {a b : Nat} (hg : wantedE n e g = true) (hx : ev n e x = VN a) (hy : ev n e y = VN b) (hb : 0 < b ∧ a < 9223372036854775808)
    (h : Plan P n K l O (upd e d (VN (a / b))) w) : Plan P n K (⟨i, true, ⟨some d, .binOp .quo t x y yt, ty, pos, aft, gd⟩, g⟩ :: l) O e w :=
  Plan.val hg (fun w => by
    have h0 : ¬ ((b : Int) = 0) := by omega
    have h1 : IntKind.i64.wrap ((a : Int).tdiv b) = ((a / b : Nat) : Int) := by
      rw [Int.tdiv_eq_ediv_of_nonneg (by omega)]
      rw [wrap_i64_in _ (by have : (a : Int) / b ≤ a := Int.ediv_le_self _ (by omega); have : 0 ≤ (a : Int) / b := Int.ediv_nonneg (by omega) (by omega); omega)]
      simp
    exact run_bin hx hy (by simp only [binOp, ne_eq, not_true_eq_false, if_false, Op.intDiv, if_neg h0, h1]; rfl)) h
theorem Plan.remN {t yt : TypeId} {x y : Operand} {a b : Nat} (hg : wantedE n e g = true) (hx : ev n e x = VN a) (hy : ev n e y = VN b) (hb : 0 < b)
    (h : Plan P n K l O (upd e d (VN (a % b))) w) : Plan P n K (⟨i, true, ⟨some d, .binOp .rem t x y yt, ty, pos, aft, gd⟩, g⟩ :: l) O e w :=
  Plan.val hg (fun w => by
    have h0 : ¬ ((b : Int) = 0) := by omega
    have h1 : (a : Int).tmod b = ((a % b : Nat) : Int) := by rw [Int.tmod_eq_emod_of_nonneg (by omega)]; simp
    exact run_bin hx hy (by simp only [binOp, ne_eq, not_true_eq_false, if_false, Op.intDiv, if_neg h0, h1]; rfl)) h
theorem Plan.remI {t yt : TypeId} {x y : Operand} {k : IntKind} {a b : Int} (hg : wantedE n e g = true) (hx : ev n e x = .int k a) (hy : ev n e y = .int k b) (hb : b ≠ 0)
    (h : Plan P n K l O (upd e d (.int k (a.tmod b))) w) : Plan P n K (⟨i, true, ⟨some d, .binOp .rem t x y yt, ty, pos, aft, gd⟩, g⟩ :: l) O e w :=
  Plan.val hg (fun w => run_bin hx hy (by simp only [binOp, ne_eq, not_true_eq_false, if_false, Op.intDiv, if_neg hb]; rfl)) h
theorem Plan.quoI {t yt : TypeId} {x y : Operand} {k : IntKind} {a b : Int} (hg : wantedE n e g = true) (hx : ev n e x = .int k a) (hy : ev n e y = .int k b) (hb : b ≠ 0)
    (h : Plan P n K l O (upd e d (.int k (k.wrap (a.tdiv b)))) w) : Plan P n K (⟨i, true, ⟨some d, .binOp .quo t x y yt, ty, pos, aft, gd⟩, g⟩ :: l) O e w :=
  Plan.val hg (fun w => run_bin hx hy (by simp only [binOp, ne_eq, not_true_eq_false, if_false, Op.intDiv, if_neg hb]; rfl)) h
theorem Plan.quoU {t yt : TypeId} {x y : Operand} {k : IntKind} {m : Nat} (hk : UK k m) {X Y : BitVec m} (hg : wantedE n e g = true) (hx : ev n e x = VU k X) (hy : ev n e y = VU k Y) (hb : 0 < Y.toNat)
    (h : Plan P n K l O (upd e d (VU k (X / Y))) w) : Plan P n K (⟨i, true, ⟨some d, .binOp .quo t x y yt, ty, pos, aft, gd⟩, g⟩ :: l) O e w :=
  Plan.quoI hg hx hy (by omega) (by
    have : k.wrap ((X.toNat : Int).tdiv Y.toNat) = ((X / Y).toNat : Int) := by
      rw [hk.wrap, Int.tdiv_eq_ediv_of_nonneg (by omega), ← Int.natCast_ediv, ← Int.natCast_emod]
      have h1 := X.isLt
      rw [Nat.mod_eq_of_lt (Nat.lt_of_le_of_lt (Nat.div_le_self _ _) h1)]
      simp
    rw [this]; exact h)
theorem Plan.remU {t yt : TypeId} {x y : Operand} {k : IntKind} {m : Nat} (_hk : UK k m) {X Y : BitVec m} (hg : wantedE n e g = true) (hx : ev n e x = VU k X) (hy : ev n e y = VU k Y) (hb : 0 < Y.toNat)
    (h : Plan P n K l O (upd e d (VU k (X % Y))) w) : Plan P n K (⟨i, true, ⟨some d, .binOp .rem t x y yt, ty, pos, aft, gd⟩, g⟩ :: l) O e w :=
  Plan.remI hg hx hy (by omega) (by
    have : (X.toNat : Int).tmod Y.toNat = ((X % Y).toNat : Int) := by
      rw [Int.tmod_eq_emod_of_nonneg (by omega)]
      simp
    rw [this]; exact h)

/-! bits of unsigned numbers -/
def bvop {m : Nat} (op : BinOp) (X Y : BitVec m) : BitVec m := match op with | .and => X &&& Y | .or => X ||| Y | .xor => X ^^^ Y | _ => X &&& ~~~Y

theorem Plan.bitsU {op : BinOp} {t yt : TypeId} {x y : Operand} {k : IntKind} {m : Nat} (hk : UK k m) {X Y : BitVec m} (hg : wantedE n e g = true) (hx : ev n e x = VU k X) (hy : ev n e y = VU k Y)
    (hop : op = .and ∨ op = .or ∨ op = .xor ∨ op = .andNot)
    (h : Plan P n K l O (upd e d (VU k (bvop op X Y))) w) : Plan P n K (⟨i, true, ⟨some d, .binOp op t x y yt, ty, pos, aft, gd⟩, g⟩ :: l) O e w :=
  Plan.val hg (fun w => run_bin hx hy (by
    have key : ∀ Z : BitVec k.bits, (Sem.pure (Value.int k (k.wrap Z.toNat))).run P w = .ok (Value.int k (Z.toNat : Int)) w := fun Z => by
      rw [hk.back Z]; rfl
    cases hk <;> rcases hop with rfl | rfl | rfl | rfl <;>
      (simp only [binOp, ne_eq, not_true_eq_false, if_false, Op.intBits]
       refine (key _).trans ?_
       simp only [BitVec.ofInt_natCast, BitVec.ofNat_toNat, BitVec.setWidth_eq, bvop, IntKind.bits]; rfl))) h
theorem Plan.andU {t yt : TypeId} {x y : Operand} {k : IntKind} {m : Nat} (hk : UK k m) {X Y : BitVec m} (hg : wantedE n e g = true) (hx : ev n e x = VU k X) (hy : ev n e y = VU k Y)
    (h : Plan P n K l O (upd e d (VU k (X &&& Y))) w) : Plan P n K (⟨i, true, ⟨some d, .binOp .and t x y yt, ty, pos, aft, gd⟩, g⟩ :: l) O e w := Plan.bitsU hk hg hx hy (by simp) h
theorem Plan.orU {t yt : TypeId} {x y : Operand} {k : IntKind} {m : Nat} (hk : UK k m) {X Y : BitVec m} (hg : wantedE n e g = true) (hx : ev n e x = VU k X) (hy : ev n e y = VU k Y)
    (h : Plan P n K l O (upd e d (VU k (X ||| Y))) w) : Plan P n K (⟨i, true, ⟨some d, .binOp .or t x y yt, ty, pos, aft, gd⟩, g⟩ :: l) O e w := Plan.bitsU hk hg hx hy (by simp) h
theorem Plan.xorU {t yt : TypeId} {x y : Operand} {k : IntKind} {m : Nat} (hk : UK k m) {X Y : BitVec m} (hg : wantedE n e g = true) (hx : ev n e x = VU k X) (hy : ev n e y = VU k Y)
    (h : Plan P n K l O (upd e d (VU k (X ^^^ Y))) w) : Plan P n K (⟨i, true, ⟨some d, .binOp .xor t x y yt, ty, pos, aft, gd⟩, g⟩ :: l) O e w := Plan.bitsU hk hg hx hy (by simp) h
theorem Plan.andNotU {t yt : TypeId} {x y : Operand} {k : IntKind} {m : Nat} (hk : UK k m) {X Y : BitVec m} (hg : wantedE n e g = true) (hx : ev n e x = VU k X) (hy : ev n e y = VU k Y)
    (h : Plan P n K l O (upd e d (VU k (X &&& ~~~Y))) w) : Plan P n K (⟨i, true, ⟨some d, .binOp .andNot t x y yt, ty, pos, aft, gd⟩, g⟩ :: l) O e w := Plan.bitsU hk hg hx hy (by simp) h

theorem run_shift {P : Program} {op : BinOp} {ρ : Operand → Value} {t yt ty : TypeId} {x y : Operand} {d : Option Tmp} {pos : String} {aft : Array Edge} {gd : Option (Nat × Bool)} {k k' : IntKind} {a b : Int} {v : Value} {w : World}
    (hop : op = .shl ∨ op = .shr) (hx : ρ x = .int k a) (hy : ρ y = .int k' b) (h : (Op.shift op k a k' b).run P w = .ok v w) : (execOp ρ ⟨d, .binOp op t x y yt, ty, pos, aft, gd⟩).run P w = .ok (.value v) w := by
  refine run_v ?_
  rw [hx, hy]
  have hq : (eqGuard op t x y (.int k a) (.int k' b)).run P w = .ok () w := by
    unfold eqGuard; cases op <;> rfl
  rw [Sem.run_bind, hq]
  rcases hop with rfl | rfl <;> exact h

theorem Plan.shlU {t yt : TypeId} {x y : Operand} {k k' : IntKind} {m c : Nat} (hk : UK k m) {X : BitVec m} (hg : wantedE n e g = true) (hx : ev n e x = VU k X) (hy : ev n e y = .int k' (c : Int))
    (h : Plan P n K l O (upd e d (VU k (X <<< c))) w) : Plan P n K (⟨i, true, ⟨some d, .binOp .shl t x y yt, ty, pos, aft, gd⟩, g⟩ :: l) O e w :=
  Plan.val hg (fun w => run_shift (.inl rfl) hx hy (by
    unfold Op.shift
    rw [if_neg (by omega)]
    have : k.wrap ((X.toNat : Int) * 2 ^ (min ((c : Int)).toNat k.bits)) = ((X <<< c).toNat : Int) := by
      rw [hk.wrap, hk.bits, BitVec.toNat_shiftLeft, Nat.shiftLeft_eq, Int.toNat_natCast]
      by_cases hc : c ≤ m
      · rw [Nat.min_eq_left hc]; simp
      · rw [Nat.min_eq_right (by omega)]
        have e1 : X.toNat * 2 ^ c % 2 ^ m = 0 := by
          obtain ⟨q, hq⟩ : ∃ q, c = m + q := ⟨c - m, by omega⟩
          rw [hq, Nat.pow_add, ← Nat.mul_assoc, Nat.mul_comm (X.toNat) (2 ^ m), Nat.mul_assoc]
          exact Nat.mul_mod_right _ _
        rw [e1]
        have : ((X.toNat : Int) * 2 ^ m) = (X.toNat : Int) * ((2 ^ m : Nat) : Int) := by simp
        rw [this, Int.mul_emod_left]; rfl
    simp only [this]; rfl)) h
theorem Plan.shrU {t yt : TypeId} {x y : Operand} {k k' : IntKind} {m c : Nat} (hk : UK k m) {X : BitVec m} (hg : wantedE n e g = true) (hx : ev n e x = VU k X) (hy : ev n e y = .int k' (c : Int))
    (h : Plan P n K l O (upd e d (VU k (X >>> c))) w) : Plan P n K (⟨i, true, ⟨some d, .binOp .shr t x y yt, ty, pos, aft, gd⟩, g⟩ :: l) O e w :=
  Plan.val hg (fun w => run_shift (.inr rfl) hx hy (by
    unfold Op.shift
    rw [if_neg (by omega)]
    have : ((X.toNat : Int).fdiv (2 ^ (min ((c : Int)).toNat k.bits))) = ((X >>> c).toNat : Int) := by
      rw [hk.bits, BitVec.toNat_ushiftRight, Nat.shiftRight_eq_div_pow, Int.toNat_natCast, Int.fdiv_eq_ediv_of_nonneg _ (by exact Int.pow_nonneg (by omega))]
      by_cases hc : c ≤ m
      · rw [Nat.min_eq_left hc]; simp
      · rw [Nat.min_eq_right (by omega)]
        have h1 := X.isLt
        have h2 : 2 ^ m ≤ 2 ^ c := Nat.pow_le_pow_right (by omega) (by omega)
        rw [Nat.div_eq_of_lt (by omega)]
        have : ((2 : Int) ^ m) = ((2 ^ m : Nat) : Int) := by simp
        rw [this, ← Int.natCast_ediv, Nat.div_eq_of_lt h1]
    simp only [this]; rfl)) h
/-- x >> c of an int that is not below 0. -/
theorem Plan.shrN {t yt : TypeId} {x y : Operand} {k' : IntKind} {a c : Nat} (hg : wantedE n e g = true) (hx : ev n e x = VN a) (hy : ev n e y = .int k' (c : Int)) (hb : a < 9223372036854775808)
    (h : Plan P n K l O (upd e d (VN (a / 2 ^ c))) w) : Plan P n K (⟨i, true, ⟨some d, .binOp .shr t x y yt, ty, pos, aft, gd⟩, g⟩ :: l) O e w :=
  Plan.val hg (fun w => run_shift (.inr rfl) hx hy (by
    unfold Op.shift
    rw [if_neg (by omega)]
    have : ((a : Int).fdiv (2 ^ (min ((c : Int)).toNat IntKind.i64.bits))) = ((a / 2 ^ c : Nat) : Int) := by
      rw [Int.toNat_natCast, Int.fdiv_eq_ediv_of_nonneg _ (by exact Int.pow_nonneg (by omega))]
      show (a : Int) / 2 ^ (min c 64) = _
      by_cases hc : c ≤ 64
      · rw [Nat.min_eq_left hc]; simp
      · rw [Nat.min_eq_right (by omega)]
        have h2 : 2 ^ 64 ≤ 2 ^ c := Nat.pow_le_pow_right (by omega) (by omega)
        rw [Nat.div_eq_of_lt (by omega)]
        omega
    simp only [this]; rfl)) h
theorem Plan.shlN {t yt : TypeId} {x y : Operand} {k' : IntKind} {a c : Nat} (hg : wantedE n e g = true) (hx : ev n e x = VN a) (hy : ev n e y = .int k' (c : Int)) (hc : c ≤ 64) (hb : a * 2 ^ c < 9223372036854775808)
    (h : Plan P n K l O (upd e d (VN (a * 2 ^ c))) w) : Plan P n K (⟨i, true, ⟨some d, .binOp .shl t x y yt, ty, pos, aft, gd⟩, g⟩ :: l) O e w :=
  Plan.val hg (fun w => run_shift (.inl rfl) hx hy (by
    unfold Op.shift
    rw [if_neg (by omega)]
    have : IntKind.i64.wrap ((a : Int) * 2 ^ (min ((c : Int)).toNat IntKind.i64.bits)) = ((a * 2 ^ c : Nat) : Int) := by
      rw [Int.toNat_natCast]
      show IntKind.i64.wrap ((a : Int) * 2 ^ (min c 64)) = _
      rw [Nat.min_eq_left hc]
      have e1 : (a : Int) * 2 ^ c = ((a * 2 ^ c : Nat) : Int) := by simp
      rw [e1, wrap_i64_in _ (by omega)]
    simp only [this]; rfl)) h

/-! comparisons of numbers: split; known; as a value -/
def icmp (op : BinOp) (a b : Int) : Bool := match op with
  | .eql => a == b | .neq => a != b | .lss => decide (a < b) | .leq => decide (a ≤ b) | .gtr => decide (a > b) | _ => decide (a ≥ b)
def isCmp : BinOp → Bool
  | .eql | .neq | .lss | .leq | .gtr | .geq => true
  | _ => false
theorem Plan.cmp {op : BinOp} {t yt : TypeId} {x y : Operand} {k : IntKind} {a b : Int} (hop : isCmp op = true) (hg : wantedE n e g = true) (hx : ev n e x = .int k a) (hy : ev n e y = .int k b)
    (h : Plan P n K l O (upd e d (.bool (icmp op a b))) w) : Plan P n K (⟨i, true, ⟨some d, .binOp op t x y yt, ty, pos, aft, gd⟩, g⟩ :: l) O e w :=
  Plan.val hg (fun w => by
    refine run_bin hx hy ?_
    cases op <;> first | exact absurd hop (by decide) | (simp only [binOp, ne_eq, not_true_eq_false, if_false, Op.intCmp, icmp]; rfl)) h
theorem Plan.ltS {t yt : TypeId} {x y : Operand} {k : IntKind} {a b : Int} (hg : wantedE n e g = true) (hx : ev n e x = .int k a) (hy : ev n e y = .int k b)
    (hT : a < b → Plan P n K l O (upd e d (.bool true)) w) (hF : b ≤ a → Plan P n K l O (upd e d (.bool false)) w) : Plan P n K (⟨i, true, ⟨some d, .binOp .lss t x y yt, ty, pos, aft, gd⟩, g⟩ :: l) O e w := by
  refine Plan.cmp rfl hg hx hy ?_
  by_cases hc : a < b
  · rw [show icmp .lss a b = true by simp [icmp, hc]]; exact hT hc
  · rw [show icmp .lss a b = false by simp [icmp]; omega]; exact hF (by omega)
theorem Plan.ltT {t yt : TypeId} {x y : Operand} {k : IntKind} {a b : Int} (hg : wantedE n e g = true) (hx : ev n e x = .int k a) (hy : ev n e y = .int k b) (hc : a < b)
    (hT : Plan P n K l O (upd e d (.bool true)) w) : Plan P n K (⟨i, true, ⟨some d, .binOp .lss t x y yt, ty, pos, aft, gd⟩, g⟩ :: l) O e w :=
  Plan.ltS hg hx hy (fun _ => hT) (fun h => by omega)
theorem Plan.ltF {t yt : TypeId} {x y : Operand} {k : IntKind} {a b : Int} (hg : wantedE n e g = true) (hx : ev n e x = .int k a) (hy : ev n e y = .int k b) (hc : b ≤ a)
    (hF : Plan P n K l O (upd e d (.bool false)) w) : Plan P n K (⟨i, true, ⟨some d, .binOp .lss t x y yt, ty, pos, aft, gd⟩, g⟩ :: l) O e w :=
  Plan.ltS hg hx hy (fun h => by omega) (fun _ => hF)
theorem Plan.leS {t yt : TypeId} {x y : Operand} {k : IntKind} {a b : Int} (hg : wantedE n e g = true) (hx : ev n e x = .int k a) (hy : ev n e y = .int k b)
    (hT : a ≤ b → Plan P n K l O (upd e d (.bool true)) w) (hF : b < a → Plan P n K l O (upd e d (.bool false)) w) : Plan P n K (⟨i, true, ⟨some d, .binOp .leq t x y yt, ty, pos, aft, gd⟩, g⟩ :: l) O e w := by
  refine Plan.cmp rfl hg hx hy ?_
  by_cases hc : a ≤ b
  · rw [show icmp .leq a b = true by simp [icmp, hc]]; exact hT hc
  · rw [show icmp .leq a b = false by simp [icmp]; omega]; exact hF (by omega)
theorem Plan.leT {t yt : TypeId} {x y : Operand} {k : IntKind} {a b : Int} (hg : wantedE n e g = true) (hx : ev n e x = .int k a) (hy : ev n e y = .int k b) (hc : a ≤ b)
    (hT : Plan P n K l O (upd e d (.bool true)) w) : Plan P n K (⟨i, true, ⟨some d, .binOp .leq t x y yt, ty, pos, aft, gd⟩, g⟩ :: l) O e w :=
  Plan.leS hg hx hy (fun _ => hT) (fun h => by omega)
theorem Plan.leF {t yt : TypeId} {x y : Operand} {k : IntKind} {a b : Int} (hg : wantedE n e g = true) (hx : ev n e x = .int k a) (hy : ev n e y = .int k b) (hc : b < a)
    (hF : Plan P n K l O (upd e d (.bool false)) w) : Plan P n K (⟨i, true, ⟨some d, .binOp .leq t x y yt, ty, pos, aft, gd⟩, g⟩ :: l) O e w :=
  Plan.leS hg hx hy (fun h => by omega) (fun _ => hF)
theorem Plan.gtS {t yt : TypeId} {x y : Operand} {k : IntKind} {a b : Int} (hg : wantedE n e g = true) (hx : ev n e x = .int k a) (hy : ev n e y = .int k b)
    (hT : b < a → Plan P n K l O (upd e d (.bool true)) w) (hF : a ≤ b → Plan P n K l O (upd e d (.bool false)) w) : Plan P n K (⟨i, true, ⟨some d, .binOp .gtr t x y yt, ty, pos, aft, gd⟩, g⟩ :: l) O e w := by
  refine Plan.cmp rfl hg hx hy ?_
  by_cases hc : b < a
  · rw [show icmp .gtr a b = true by simp [icmp, hc]]; exact hT hc
  · rw [show icmp .gtr a b = false by simp [icmp]; omega]; exact hF (by omega)
theorem Plan.gtT {t yt : TypeId} {x y : Operand} {k : IntKind} {a b : Int} (hg : wantedE n e g = true) (hx : ev n e x = .int k a) (hy : ev n e y = .int k b) (hc : b < a)
    (hT : Plan P n K l O (upd e d (.bool true)) w) : Plan P n K (⟨i, true, ⟨some d, .binOp .gtr t x y yt, ty, pos, aft, gd⟩, g⟩ :: l) O e w :=
  Plan.gtS hg hx hy (fun _ => hT) (fun h => by omega)
theorem Plan.gtF {t yt : TypeId} {x y : Operand} {k : IntKind} {a b : Int} (hg : wantedE n e g = true) (hx : ev n e x = .int k a) (hy : ev n e y = .int k b) (hc : a ≤ b)
    (hF : Plan P n K l O (upd e d (.bool false)) w) : Plan P n K (⟨i, true, ⟨some d, .binOp .gtr t x y yt, ty, pos, aft, gd⟩, g⟩ :: l) O e w :=
  Plan.gtS hg hx hy (fun h => by omega) (fun _ => hF)
theorem Plan.geS {t yt : TypeId} {x y : Operand} {k : IntKind} {a b : Int} (hg : wantedE n e g = true) (hx : ev n e x = .int k a) (hy : ev n e y = .int k b)
    (hT : b ≤ a → Plan P n K l O (upd e d (.bool true)) w) (hF : a < b → Plan P n K l O (upd e d (.bool false)) w) : Plan P n K (⟨i, true, ⟨some d, .binOp .geq t x y yt, ty, pos, aft, gd⟩, g⟩ :: l) O e w := by
  refine Plan.cmp rfl hg hx hy ?_
  by_cases hc : b ≤ a
  · rw [show icmp .geq a b = true by simp [icmp, hc]]; exact hT hc
  · rw [show icmp .geq a b = false by simp [icmp]; omega]; exact hF (by omega)
theorem Plan.geT {t yt : TypeId} {x y : Operand} {k : IntKind} {a b : Int} (hg : wantedE n e g = true) (hx : ev n e x = .int k a) (hy : ev n e y = .int k b) (hc : b ≤ a)
    (hT : Plan P n K l O (upd e d (.bool true)) w) : Plan P n K (⟨i, true, ⟨some d, .binOp .geq t x y yt, ty, pos, aft, gd⟩, g⟩ :: l) O e w :=
  Plan.geS hg hx hy (fun _ => hT) (fun h => by omega)
theorem Plan.geF {t yt : TypeId} {x y : Operand} {k : IntKind} {a b : Int} (hg : wantedE n e g = true) (hx : ev n e x = .int k a) (hy : ev n e y = .int k b) (hc : a < b)
    (hF : Plan P n K l O (upd e d (.bool false)) w) : Plan P n K (⟨i, true, ⟨some d, .binOp .geq t x y yt, ty, pos, aft, gd⟩, g⟩ :: l) O e w :=
  Plan.geS hg hx hy (fun h => by omega) (fun _ => hF)
theorem Plan.eqS {t yt : TypeId} {x y : Operand} {k : IntKind} {a b : Int} (hg : wantedE n e g = true) (hx : ev n e x = .int k a) (hy : ev n e y = .int k b)
    (hT : a = b → Plan P n K l O (upd e d (.bool true)) w) (hF : a ≠ b → Plan P n K l O (upd e d (.bool false)) w) : Plan P n K (⟨i, true, ⟨some d, .binOp .eql t x y yt, ty, pos, aft, gd⟩, g⟩ :: l) O e w := by
  refine Plan.cmp rfl hg hx hy ?_
  by_cases hc : a = b
  · rw [show icmp .eql a b = true by simp [icmp, hc]]; exact hT hc
  · rw [show icmp .eql a b = false by simp [icmp]; omega]; exact hF (by omega)
theorem Plan.eqT {t yt : TypeId} {x y : Operand} {k : IntKind} {a b : Int} (hg : wantedE n e g = true) (hx : ev n e x = .int k a) (hy : ev n e y = .int k b) (hc : a = b)
    (hT : Plan P n K l O (upd e d (.bool true)) w) : Plan P n K (⟨i, true, ⟨some d, .binOp .eql t x y yt, ty, pos, aft, gd⟩, g⟩ :: l) O e w :=
  Plan.eqS hg hx hy (fun _ => hT) (fun h => by omega)
theorem Plan.eqF {t yt : TypeId} {x y : Operand} {k : IntKind} {a b : Int} (hg : wantedE n e g = true) (hx : ev n e x = .int k a) (hy : ev n e y = .int k b) (hc : a ≠ b)
    (hF : Plan P n K l O (upd e d (.bool false)) w) : Plan P n K (⟨i, true, ⟨some d, .binOp .eql t x y yt, ty, pos, aft, gd⟩, g⟩ :: l) O e w :=
  Plan.eqS hg hx hy (fun h => by omega) (fun _ => hF)
theorem Plan.neS {t yt : TypeId} {x y : Operand} {k : IntKind} {a b : Int} (hg : wantedE n e g = true) (hx : ev n e x = .int k a) (hy : ev n e y = .int k b)
    (hT : a ≠ b → Plan P n K l O (upd e d (.bool true)) w) (hF : a = b → Plan P n K l O (upd e d (.bool false)) w) : Plan P n K (⟨i, true, ⟨some d, .binOp .neq t x y yt, ty, pos, aft, gd⟩, g⟩ :: l) O e w := by
  refine Plan.cmp rfl hg hx hy ?_
  by_cases hc : a ≠ b
  · rw [show icmp .neq a b = true by simp [icmp, hc]]; exact hT hc
  · rw [show icmp .neq a b = false by simp [icmp]; omega]; exact hF (by omega)
theorem Plan.neT {t yt : TypeId} {x y : Operand} {k : IntKind} {a b : Int} (hg : wantedE n e g = true) (hx : ev n e x = .int k a) (hy : ev n e y = .int k b) (hc : a ≠ b)
    (hT : Plan P n K l O (upd e d (.bool true)) w) : Plan P n K (⟨i, true, ⟨some d, .binOp .neq t x y yt, ty, pos, aft, gd⟩, g⟩ :: l) O e w :=
  Plan.neS hg hx hy (fun _ => hT) (fun h => by omega)
theorem Plan.neF {t yt : TypeId} {x y : Operand} {k : IntKind} {a b : Int} (hg : wantedE n e g = true) (hx : ev n e x = .int k a) (hy : ev n e y = .int k b) (hc : a = b)
    (hF : Plan P n K l O (upd e d (.bool false)) w) : Plan P n K (⟨i, true, ⟨some d, .binOp .neq t x y yt, ty, pos, aft, gd⟩, g⟩ :: l) O e w :=
  Plan.neS hg hx hy (fun h => by omega) (fun _ => hF)

/-! bools -/
theorem Plan.not {t : TypeId} {x : Operand} {b : Bool} (hg : wantedE n e g = true) (hx : ev n e x = .bool b)
    (h : Plan P n K l O (upd e d (.bool !b)) w) : Plan P n K (⟨i, true, ⟨some d, .unOp .not t x, ty, pos, aft, gd⟩, g⟩ :: l) O e w :=
  Plan.val hg (fun w => run_v (by rw [hx]; rfl)) h
theorem Plan.notT {t : TypeId} {x : Operand} (hg : wantedE n e g = true) (hx : ev n e x = .bool true)
    (h : Plan P n K l O (upd e d (.bool false)) w) : Plan P n K (⟨i, true, ⟨some d, .unOp .not t x, ty, pos, aft, gd⟩, g⟩ :: l) O e w := Plan.not hg hx h
theorem Plan.notF {t : TypeId} {x : Operand} (hg : wantedE n e g = true) (hx : ev n e x = .bool false)
    (h : Plan P n K l O (upd e d (.bool true)) w) : Plan P n K (⟨i, true, ⟨some d, .unOp .not t x, ty, pos, aft, gd⟩, g⟩ :: l) O e w := Plan.not hg hx h
theorem Plan.pickT {c a b : Operand} {v : Value} (hg : wantedE n e g = true) (hc : ev n e c = .bool true) (ha : ev n e a = v)
    (h : Plan P n K l O (upd e d v) w) : Plan P n K (⟨i, true, ⟨some d, .pick c a b, ty, pos, aft, gd⟩, g⟩ :: l) O e w :=
  Plan.val hg (fun w => by simp [execOp, hc, ha, asBool, pure]) h
theorem Plan.pickF {c a b : Operand} {v : Value} (hg : wantedE n e g = true) (hc : ev n e c = .bool false) (hb : ev n e b = v)
    (h : Plan P n K l O (upd e d v) w) : Plan P n K (⟨i, true, ⟨some d, .pick c a b, ty, pos, aft, gd⟩, g⟩ :: l) O e w :=
  Plan.val hg (fun w => by simp [execOp, hc, hb, asBool, pure]) h
theorem Plan.pickTb {c a b : Operand} {v : Bool} (hg : wantedE n e g = true) (hc : ev n e c = .bool true) (ha : ev n e a = .bool v)
    (h : Plan P n K l O (upd e d (.bool v)) w) : Plan P n K (⟨i, true, ⟨some d, .pick c a b, ty, pos, aft, gd⟩, g⟩ :: l) O e w := Plan.pickT hg hc ha h
theorem Plan.pickFb {c a b : Operand} {v : Bool} (hg : wantedE n e g = true) (hc : ev n e c = .bool false) (hb : ev n e b = .bool v)
    (h : Plan P n K l O (upd e d (.bool v)) w) : Plan P n K (⟨i, true, ⟨some d, .pick c a b, ty, pos, aft, gd⟩, g⟩ :: l) O e w := Plan.pickF hg hc hb h
/-- A bool in the frame is parted into its two cases. -/
theorem Plan.splitb {b : Bool} {s : Nat} {e0 : Env} (hT : b = true → Plan P n K l O (upd e0 s (.bool true)) w) (hF : b = false → Plan P n K l O (upd e0 s (.bool false)) w) : Plan P n K l O (upd e0 s (.bool b)) w := by
  cases b
  · exact hF rfl
  · exact hT rfl

/-! one operand -/
theorem Plan.negI {t : TypeId} {x : Operand} {a : Int} (hg : wantedE n e g = true) (hx : ev n e x = .int .i64 a) (hb : -9223372036854775808 ≤ -a ∧ -a ≤ 9223372036854775807)
    (h : Plan P n K l O (upd e d (.int .i64 (-a))) w) : Plan P n K (⟨i, true, ⟨some d, .unOp .neg t x, ty, pos, aft, gd⟩, g⟩ :: l) O e w :=
  Plan.val hg (fun w => run_v (by
    rw [hx]
    show (Op.intArith .sub .i64 0 a).run P w = _
    simp only [Op.intArith]
    rw [show (0 : Int) - a = -a by omega, wrap_i64_in _ hb]; rfl)) h
theorem Plan.compU {t : TypeId} {x : Operand} {k : IntKind} {m : Nat} (hk : UK k m) {X : BitVec m} (hg : wantedE n e g = true) (hx : ev n e x = VU k X)
    (h : Plan P n K l O (upd e d (VU k (~~~X))) w) : Plan P n K (⟨i, true, ⟨some d, .unOp .xor t x, ty, pos, aft, gd⟩, g⟩ :: l) O e w :=
  Plan.val hg (fun w => run_v (by
    rw [hx]
    show (Op.intBits .xor k (if k.signed then -1 else k.max) (X.toNat : Int)).run P w = _
    have key : ∀ Z : BitVec k.bits, (Sem.pure (Value.int k (k.wrap Z.toNat))).run P w = .ok (Value.int k (Z.toNat : Int)) w := fun Z => by
      rw [hk.back Z]; rfl
    rw [hk.not_signed]
    cases hk <;>
      (simp only [Op.intBits, Bool.false_eq_true, if_false]
       refine (key _).trans ?_
       simp only [BitVec.ofInt_natCast, BitVec.ofNat_toNat, BitVec.setWidth_eq, IntKind.bits]
       rw [← BitVec.allOnes_xor]; rfl))) h

/-! conversions between numbers -/
theorem run_conv {P : Program} {s t : TypeId} {k k' : IntKind} {a : Int} {w : World} (ht : P.underlying t = some (.int k')) (hs : (P.underlying s).isSome = true) :
    (convert s t (.int k a)).run P w = .ok (.int k' (k'.wrap a)) w := by
  obtain ⟨sd, hs⟩ := Option.isSome_iff_exists.1 hs
  unfold convert
  simp only [Sem.run_bind, run_underlying hs, run_underlying ht, Result.andThen]
  cases sd <;> rfl

theorem Plan.conv {s t : TypeId} {x : Operand} {k k' : IntKind} {a b : Int} (ht : P.underlying t = some (.int k')) (hs : (P.underlying s).isSome = true) (hg : wantedE n e g = true) (hx : ev n e x = .int k a) (hb : k'.wrap a = b)
    (h : Plan P n K l O (upd e d (.int k' b)) w) : Plan P n K (⟨i, true, ⟨some d, .convert s t x, ty, pos, aft, gd⟩, g⟩ :: l) O e w :=
  Plan.val hg (fun w => run_v (by rw [hx, run_conv ht hs, hb])) h
/-- from a number that is not below 0 to an unsigned kind -/
theorem Plan.convNU {s t : TypeId} {x : Operand} {k k' : IntKind} {m' a : Nat} (hk' : UK k' m') (ht : P.underlying t = some (.int k')) (hs : (P.underlying s).isSome = true) (hg : wantedE n e g = true) (hx : ev n e x = .int k (a : Int))
    (h : Plan P n K l O (upd e d (VU k' (BitVec.ofNat m' a))) w) : Plan P n K (⟨i, true, ⟨some d, .convert s t x, ty, pos, aft, gd⟩, g⟩ :: l) O e w :=
  Plan.conv ht hs hg hx (by rw [hk'.wrap, BitVec.toNat_ofNat, Int.natCast_emod]) h
/-- between unsigned kinds -/
theorem Plan.convUU {s t : TypeId} {x : Operand} {k k' : IntKind} {m m' : Nat} (hk' : UK k' m') {X : BitVec m} (ht : P.underlying t = some (.int k')) (hs : (P.underlying s).isSome = true) (hg : wantedE n e g = true) (hx : ev n e x = VU k X)
    (h : Plan P n K l O (upd e d (VU k' (X.setWidth m'))) w) : Plan P n K (⟨i, true, ⟨some d, .convert s t x, ty, pos, aft, gd⟩, g⟩ :: l) O e w :=
  Plan.conv ht hs hg hx (by rw [hk'.wrap, BitVec.toNat_setWidth, Int.natCast_emod]) h
/-- to int, of what is below 2^63 -/
theorem Plan.convN {s t : TypeId} {x : Operand} {k : IntKind} {a : Nat} (ht : P.underlying t = some (.int .i64)) (hs : (P.underlying s).isSome = true) (hg : wantedE n e g = true) (hx : ev n e x = .int k (a : Int)) (hb : a < 9223372036854775808)
    (h : Plan P n K l O (upd e d (VN a)) w) : Plan P n K (⟨i, true, ⟨some d, .convert s t x, ty, pos, aft, gd⟩, g⟩ :: l) O e w :=
  Plan.conv ht hs hg hx (wrap_i64_in _ (by omega)) h
/-- an int, whatever it is, to an unsigned kind -/
theorem Plan.convIU {s t : TypeId} {x : Operand} {k k' : IntKind} {m' : Nat} {a : Int} (hk' : UK k' m') (ht : P.underlying t = some (.int k')) (hs : (P.underlying s).isSome = true) (hg : wantedE n e g = true) (hx : ev n e x = .int k a)
    (h : Plan P n K l O (upd e d (VU k' (BitVec.ofInt m' a))) w) : Plan P n K (⟨i, true, ⟨some d, .convert s t x, ty, pos, aft, gd⟩, g⟩ :: l) O e w :=
  Plan.conv ht hs hg hx (by rw [hk'.wrap, BitVec.toNat_ofInt, Int.toNat_of_nonneg (Int.emod_nonneg _ (by have := Nat.two_pow_pos m'; omega))]) h
end step
end Go.LW
