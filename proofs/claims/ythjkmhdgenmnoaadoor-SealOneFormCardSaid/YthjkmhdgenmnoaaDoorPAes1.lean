/-
  PLAIN LAW, AES PART 1 (own work): the product of bytes, its laws; the powers; the box and its opposite.
-/
import Derived.Test.YthjkmhdgenmnoaaDoorRAes
namespace Go.Proofs.YthjkmhdgenmnoaaDoor
set_option linter.unusedSimpArgs false
set_option linter.unusedVariables false
set_option linter.unusedSectionVars false
open Go Go.LW

/-! ### the product -/
def xt (a : BitVec 8) : BitVec 8 := if a &&& 128#8 ≠ 0#8 then (a <<< 1) ^^^ 27#8 else a <<< 1
def mulFrom : Nat → BitVec 8 → BitVec 8 → BitVec 8 → BitVec 8
  | 0, _, _, out => out
  | n + 1, a, b, out => mulFrom n (xt a) (b >>> 1) (if b &&& 1#8 = 1#8 then out ^^^ a else out)
def mul8 (a b : BitVec 8) : BitVec 8 := mulFrom 8 a b 0#8
theorem mulFrom_zero : ∀ (n : Nat) (a out : BitVec 8), mulFrom n a 0#8 out = out
  | 0, _, _ => rfl
  | n + 1, a, out => by
    unfold mulFrom
    rw [if_neg (by decide), show (0#8 >>> 1 : BitVec 8) = 0#8 by decide]
    exact mulFrom_zero n _ _
theorem mul_iter : ∀ (n : Nat) (a b out : BitVec 8), b.toNat < 2 ^ n → Iter aes_Mul_l0 (a, b, out) (mulFrom n a b out) := by
  intro n
  induction n with
  | zero =>
    intro a b out hb
    obtain rfl : b = 0#8 := by
      apply BitVec.eq_of_toNat_eq; simp at hb ⊢; exact hb
    refine .done ?_
    simp [aes_Mul_l0, mulFrom]
  | succ n ih =>
    intro a b out hb
    by_cases h0 : b = 0#8
    · subst h0
      rw [mulFrom_zero]
      refine .done ?_
      simp [aes_Mul_l0]
    · refine .more (s' := (xt a, b >>> 1, if b &&& 1#8 = 1#8 then out ^^^ a else out)) ?_ ?_
      · unfold aes_Mul_l0 xt
        simp only [ne_eq, h0, not_false_eq_true, if_true]
        refine ⟨if b &&& 1#8 = 1#8 then out ^^^ a else out, ?_, ?_⟩
        · split <;> simp_all
        · split <;> simp_all
      · unfold mulFrom
        refine ih _ _ _ ?_
        rw [BitVec.toNat_ushiftRight, Nat.shiftRight_eq_div_pow]
        have : (2 : Nat) ^ (n + 1) = 2 ^ n * 2 := Nat.pow_succ ..
        omega
theorem mul_ok (a b : BitVec 8) : aes_Mul a b (mul8 a b) := ⟨_, mul_iter 8 a b 0#8 b.isLt, rfl⟩

/-! ### additive maps of bytes are known by what they make of the eight bits -/
def Add8 (F : BitVec 8 → BitVec 8) : Prop := ∀ x y, F (x ^^^ y) = F x ^^^ F y
theorem xlc {n : Nat} (a b c : BitVec n) : a ^^^ (b ^^^ c) = b ^^^ (a ^^^ c) := by rw [← BitVec.xor_assoc, BitVec.xor_comm a b, BitVec.xor_assoc]
theorem xsc {n : Nat} (a b : BitVec n) : a ^^^ (a ^^^ b) = b := by rw [← BitVec.xor_assoc, BitVec.xor_self, BitVec.zero_xor]
theorem xor0 (a : BitVec 8) : a ^^^ 0#8 = a := by simp
theorem Add8.zero {F : BitVec 8 → BitVec 8} (h : Add8 F) : F 0#8 = 0#8 := by
  have := h 0#8 0#8
  rw [show (0#8 ^^^ 0#8 : BitVec 8) = 0#8 by decide] at this
  have h2 : F 0#8 ^^^ F 0#8 = 0#8 := BitVec.xor_self
  rw [h2] at this; exact this
def bit8 (x : BitVec 8) (i : Nat) : BitVec 8 := if x.getLsbD i then 1#8 <<< i else 0#8
theorem bits8 : ∀ x : BitVec 8, x = bit8 x 0 ^^^ bit8 x 1 ^^^ bit8 x 2 ^^^ bit8 x 3 ^^^ bit8 x 4 ^^^ bit8 x 5 ^^^ bit8 x 6 ^^^ bit8 x 7 := by decide +kernel
theorem ext8 {F G : BitVec 8 → BitVec 8} (hF : Add8 F) (hG : Add8 G) (h : ∀ i, i < 8 → F (1#8 <<< i) = G (1#8 <<< i)) (x : BitVec 8) : F x = G x := by
  have hb : ∀ i, i < 8 → F (bit8 x i) = G (bit8 x i) := fun i hi => by
    unfold bit8; split
    · exact h i hi
    · rw [hF.zero, hG.zero]
  rw [bits8 x]
  simp only [hF _ _, hG _ _, hb 0 (by omega), hb 1 (by omega), hb 2 (by omega), hb 3 (by omega), hb 4 (by omega), hb 5 (by omega), hb 6 (by omega), hb 7 (by omega)]

theorem xt_add : Add8 xt := by
  intro x y
  have h1 : ∀ a : BitVec 8, xt a = (a <<< 1) ^^^ (if a.getLsbD 7 then 27#8 else 0#8) := by decide +kernel
  rw [h1, h1, h1, BitVec.shiftLeft_xor_distrib, BitVec.getLsbD_xor]
  generalize x <<< 1 = u
  generalize y <<< 1 = v
  cases x.getLsbD 7 <;> cases y.getLsbD 7 <;> simp [BitVec.xor_assoc, BitVec.xor_comm, xlc, xsc]
theorem mulFrom_out : ∀ (n : Nat) (a b out : BitVec 8), mulFrom n a b out = out ^^^ mulFrom n a b 0#8
  | 0, a, b, out => by simp [mulFrom]
  | n + 1, a, b, out => by
    unfold mulFrom
    rw [mulFrom_out n _ _ (if b &&& 1#8 = 1#8 then out ^^^ a else out), mulFrom_out n _ _ (if b &&& 1#8 = 1#8 then 0#8 ^^^ a else 0#8)]
    split <;> simp [BitVec.xor_assoc]
theorem mulFrom_addL : ∀ (n : Nat) (a a' b : BitVec 8), mulFrom n (a ^^^ a') b 0#8 = mulFrom n a b 0#8 ^^^ mulFrom n a' b 0#8
  | 0, _, _, _ => by simp [mulFrom]
  | n + 1, a, a', b => by
    unfold mulFrom
    rw [mulFrom_out n _ _ (if b &&& 1#8 = 1#8 then 0#8 ^^^ (a ^^^ a') else 0#8), mulFrom_out n _ _ (if b &&& 1#8 = 1#8 then 0#8 ^^^ a else 0#8), mulFrom_out n _ _ (if b &&& 1#8 = 1#8 then 0#8 ^^^ a' else 0#8), xt_add, mulFrom_addL n]
    split <;> simp [BitVec.xor_assoc, xlc, xsc, BitVec.xor_comm]
theorem mulFrom_addR : ∀ (n : Nat) (a b b' : BitVec 8), mulFrom n a (b ^^^ b') 0#8 = mulFrom n a b 0#8 ^^^ mulFrom n a b' 0#8
  | 0, _, _, _ => by simp [mulFrom]
  | n + 1, a, b, b' => by
    have h1 : ∀ b : BitVec 8, (b &&& 1#8 = 1#8) = (b.getLsbD 0 = true) := fun b => by
      rw [propext_iff]; revert b; decide +kernel
    unfold mulFrom
    rw [mulFrom_out n _ _ (if (b ^^^ b') &&& 1#8 = 1#8 then 0#8 ^^^ a else 0#8), mulFrom_out n _ _ (if b &&& 1#8 = 1#8 then 0#8 ^^^ a else 0#8), mulFrom_out n _ _ (if b' &&& 1#8 = 1#8 then 0#8 ^^^ a else 0#8), BitVec.ushiftRight_xor_distrib, mulFrom_addR n]
    simp only [h1, BitVec.getLsbD_xor]
    generalize mulFrom n (xt a) (b >>> 1) 0#8 = u
    generalize mulFrom n (xt a) (b' >>> 1) 0#8 = v
    cases b.getLsbD 0 <;> cases b'.getLsbD 0 <;> simp [BitVec.xor_assoc, xlc, xsc, BitVec.xor_comm]
theorem mul_addL (b : BitVec 8) : Add8 fun a => mul8 a b := fun x y => mulFrom_addL 8 x y b
theorem mul_addR (a : BitVec 8) : Add8 fun b => mul8 a b := fun x y => mulFrom_addR 8 a x y
theorem Add8.comp {F G : BitVec 8 → BitVec 8} (hF : Add8 F) (hG : Add8 G) : Add8 fun x => F (G x) := fun x y => by
  show F (G (x ^^^ y)) = _
  rw [hG, hF]
theorem mul_comm8 (a b : BitVec 8) : mul8 a b = mul8 b a := by
  refine ext8 (F := fun a => mul8 a b) (G := fun a => mul8 b a) (mul_addL b) (mul_addR b) (fun i hi => ?_) a
  refine ext8 (F := fun b => mul8 (1#8 <<< i) b) (G := fun b => mul8 b (1#8 <<< i)) (mul_addR _) (mul_addL _) (fun j hj => ?_) b
  have : ∀ i, i < 8 → ∀ j, j < 8 → mul8 (1#8 <<< i) (1#8 <<< j) = mul8 (1#8 <<< j) (1#8 <<< i) := by decide +kernel
  exact this i hi j hj
theorem mul_assoc8 (a b c : BitVec 8) : mul8 a (mul8 b c) = mul8 (mul8 a b) c := by
  refine ext8 (F := fun a => mul8 a (mul8 b c)) (G := fun a => mul8 (mul8 a b) c) (mul_addL _) (Add8.comp (F := fun a => mul8 a c) (G := fun a => mul8 a b) (mul_addL c) (mul_addL b)) (fun i hi => ?_) a
  refine ext8 (F := fun b => mul8 (1#8 <<< i) (mul8 b c)) (G := fun b => mul8 (mul8 (1#8 <<< i) b) c) (Add8.comp (F := fun x => mul8 (1#8 <<< i) x) (G := fun b => mul8 b c) (mul_addR _) (mul_addL c)) (Add8.comp (F := fun a => mul8 a c) (G := fun b => mul8 (1#8 <<< i) b) (mul_addL c) (mul_addR _)) (fun j hj => ?_) b
  refine ext8 (F := fun c => mul8 (1#8 <<< i) (mul8 (1#8 <<< j) c)) (G := fun c => mul8 (mul8 (1#8 <<< i) (1#8 <<< j)) c) (Add8.comp (F := fun x => mul8 (1#8 <<< i) x) (G := fun c => mul8 (1#8 <<< j) c) (mul_addR _) (mul_addR _)) (mul_addR _) (fun k hk => ?_) c
  have : ∀ i, i < 8 → ∀ j, j < 8 → ∀ k, k < 8 → mul8 (1#8 <<< i) (mul8 (1#8 <<< j) (1#8 <<< k)) = mul8 (mul8 (1#8 <<< i) (1#8 <<< j)) (1#8 <<< k) := by decide +kernel
  exact this i hi j hj k hk
theorem mul_one8 (a : BitVec 8) : mul8 a 1#8 = a := by revert a; decide +kernel
theorem mul_zero8 (a : BitVec 8) : mul8 0#8 a = 0#8 := (mul_addL a).zero
end Go.Proofs.YthjkmhdgenmnoaaDoor
