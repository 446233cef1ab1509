/-
  PLAIN LAW OF AesField (own work): whatever three bytes are asked, the relation of the law's function holds with 'true'.
-/
import Derived.Test.YthjkmhdgenmnoaaPAes2
import Derived.Test.YthjkmhdgenmnoaaRAesField
namespace Go.Proofs.Ythjkmhdgenmnoaa
set_option linter.unusedSimpArgs false
set_option linter.unusedVariables false
set_option linter.unusedSectionVars false
open Go Go.LW

def scan8 (a : BitVec 8) : Nat → BitVec 8 × Nat
  | 0 => (0#8, 0)
  | t + 1 => if mul8 a (BitVec.ofNat 8 t) = 1#8 then (BitVec.ofNat 8 t, (scan8 a t).2 + 1) else scan8 a t
theorem scan8_le (a : BitVec 8) : ∀ t, (scan8 a t).2 ≤ t
  | 0 => Nat.le_refl _
  | t + 1 => by
    unfold scan8
    have := scan8_le a t
    split
    · show (scan8 a t).2 + 1 ≤ t + 1; omega
    · omega
theorem inv_unique {a x : BitVec 8} (h0 : a ≠ 0#8) (h : mul8 a x = 1#8) : x = inv8 a := by
  have h1 : mul8 (inv8 a) (mul8 a x) = mul8 (mul8 (inv8 a) a) x := mul_assoc8 _ _ _
  rw [h, mul_comm8 (inv8 a) a, mul_inv8 a h0, mul_one8, mul_comm8 1#8 x, mul_one8] at h1
  exact h1.symm
theorem scan8_ne {a : BitVec 8} (h0 : a ≠ 0#8) : ∀ t, t ≤ 256 → scan8 a t = if (inv8 a).toNat < t then (inv8 a, 1) else (0#8, 0)
  | 0, _ => rfl
  | t + 1, ht => by
    unfold scan8
    rw [scan8_ne h0 t (by omega)]
    by_cases h : mul8 a (BitVec.ofNat 8 t) = 1#8
    · have h1 := inv_unique h0 h
      have h2 : (inv8 a).toNat = t := by rw [← h1]; simp; omega
      rw [if_pos h, if_neg (by omega), if_pos (by omega), h1]
    · have h2 : (inv8 a).toNat ≠ t := fun h3 => h (by rw [← h3, BitVec.ofNat_toNat, BitVec.setWidth_eq]; exact mul_inv8 a h0)
      rw [if_neg h]
      by_cases h3 : (inv8 a).toNat < t
      · rw [if_pos h3, if_pos (by omega)]
      · rw [if_neg h3, if_neg (by omega)]
theorem scan8_zero : ∀ t, scan8 0#8 t = (0#8, 0)
  | 0 => rfl
  | t + 1 => by
    unfold scan8
    rw [mul_zero8, if_neg (by decide), scan8_zero t]
theorem scan8_iter (a : BitVec 8) : Iter (lethelaw04_AesField_l0 a) (0#8, 0, 0) ((scan8 a 256).1, (scan8 a 256).2) := by
  refine Iter.count (fun t => ((scan8 a t).1, (scan8 a t).2, t)) 256 (fun t ht => ?_) ?_
  · unfold lethelaw04_AesField_l0
    simp only [ht, if_true]
    refine ⟨_, mul_ok _ _, ?_⟩
    by_cases h : mul8 a (BitVec.ofNat 8 t) = 1#8
    · rw [if_pos h]
      have := scan8_le a t
      refine ⟨by omega, ?_⟩
      simp only [scan8, h, if_true]
    · rw [if_neg h]
      simp only [scan8, h, if_false]
  · unfold lethelaw04_AesField_l0
    simp only [Nat.lt_irrefl, if_false]
def wv (v : BitVec 8) (bit : Nat) : Nat → Nat
  | 0 => 99 / 2 ^ bit
  | t + 1 => if t = 0 then wv v bit t ^^^ (v >>> bit).toNat else wv v bit t ^^^ (v >>> ((bit + t + 3) % 8)).toNat
theorem wv_lt (v : BitVec 8) (bit : Nat) : ∀ t, wv v bit t < 2 ^ 8
  | 0 => Nat.lt_of_le_of_lt (Nat.div_le_self _ _) (by decide)
  | t + 1 => by
    unfold wv
    split
    · exact Nat.xor_lt_two_pow (wv_lt v bit t) (v >>> bit).isLt
    · exact Nat.xor_lt_two_pow (wv_lt v bit t) (v >>> ((bit + t + 3) % 8)).isLt
theorem wv_iter (v : BitVec 8) (bit : Nat) : Iter (lethelaw04_AesField_l2 v bit) (99 / 2 ^ bit, 0) (wv v bit 5) := by
  refine Iter.count (fun t => (wv v bit t, t)) 5 (fun t ht => ?_) ?_
  · unfold lethelaw04_AesField_l2
    have h1 := wv_lt v bit t
    simp only [ht, if_true]
    by_cases h0 : t = 0
    · subst h0
      rw [if_pos rfl]
      exact ⟨⟨by omega, by have := (v >>> bit).isLt; omega⟩, rfl⟩
    · rw [if_neg h0]
      refine ⟨⟨by omega, by have := (v >>> ((bit + t + 3) % 8)).isLt; omega⟩, ?_⟩
      simp only [wv, h0, if_false]
  · unfold lethelaw04_AesField_l2
    simp only [Nat.lt_irrefl, if_false]
def want8 (v : BitVec 8) : Nat → BitVec 8
  | 0 => 0#8
  | i + 1 => want8 v i ||| ((BitVec.ofNat 8 (wv v i 5 &&& 1)) <<< i)
theorem want8_iter (v : BitVec 8) : Iter (lethelaw04_AesField_l1 v) (0#8, 0) (want8 v 8) := by
  refine Iter.count (fun i => (want8 v i, i)) 8 (fun i hi => ?_) ?_
  · unfold lethelaw04_AesField_l1
    simp only [hi, if_true]
    have h1 := wv_lt v i 5
    exact ⟨_, wv_iter v i, ⟨by omega, by decide⟩, rfl⟩
  · unfold lethelaw04_AesField_l1
    simp only [Nat.lt_irrefl, if_false]
theorem box_want (a : BitVec 8) : sb a = want8 (inv8 a) 8 := by revert a; decide +kernel
theorem aesField_true (a b c : BitVec 8) : lethelaw04_AesField a b c true := by
  unfold lethelaw04_AesField
  refine ⟨_, mul_ok _ _, _, mul_ok _ _, ?_⟩
  rw [if_neg (fun h => h (mul_comm8 a b))]
  refine ⟨_, mul_ok _ _, _, mul_ok _ _, _, mul_ok _ _, _, mul_ok _ _, ?_⟩
  rw [if_neg (fun h => h (mul_assoc8 a b c))]
  refine ⟨_, mul_ok _ _, _, mul_ok _ _, _, mul_ok _ _, ?_⟩
  rw [if_neg (fun h => h (mul_addR a b c))]
  refine ⟨_, mul_ok _ _, ?_⟩
  rw [if_neg (fun h => h (mul_one8 a))]
  refine ⟨_, mul_ok _ _, ?_⟩
  rw [if_neg (by decide)]
  refine ⟨_, mul_ok _ _, ?_⟩
  rw [if_neg (by decide)]
  refine ⟨_, _, scan8_iter a, ?_⟩
  have hs : scan8 a 256 = (inv8 a, if a = 0#8 then 0 else 1) := by
    by_cases h0 : a = 0#8
    · subst h0; rw [scan8_zero]; decide
    · rw [scan8_ne h0 256 (Nat.le_refl _), if_pos (inv8 a).isLt, if_neg h0]
  rw [hs]
  have hd : ((decide ((inv8 a, if a = 0#8 then 0 else 1).2 = 1)) != (decide (a ≠ 0#8))) = false := by
    by_cases h0 : a = 0#8 <;> simp [h0]
  rw [hd, if_neg (by decide), if_neg (by simp only; split <;> omega)]
  refine ⟨_, want8_iter _, _, box_ok a, ?_⟩
  rw [box_want a]
  simp
end Go.Proofs.Ythjkmhdgenmnoaa
