/-
  PLAIN (own work), FIELD PART 4: bit by bit; Bytes.
-/
import Derived.Test.YtjblfkmmbpcpaaaDoorPField3
namespace Go.Proofs.YtjblfkmmbpcpaaaDoor
set_option linter.unusedSimpArgs false
set_option linter.unusedVariables false
set_option linter.unusedSectionVars false
open Go Go.LW

def bitF (z : F5) (t : Nat) : BitVec 8 := (((z (t / 51)) >>> (t % 51)) &&& 1#64).setWidth 8
def bitsF (z : F5) : Nat → (Nat → BitVec 8)
  | 0 => fun _ => 0#8
  | t + 1 => upd (bitsF z t) (t / 8) (bitsF z t (t / 8) ||| (bitF z t <<< (t % 8)))
theorem limb_bit (z : F5) (h : Bnd (2 ^ 51) z) {i s : Nat} (hi : i < 5) (hs : s < 51) : (val z).testBit (51 * i + s) = (z i).toNat.testBit s := by
  have h0 := h 0 (by omega)
  have h1 := h 1 (by omega)
  have h2 := h 2 (by omega)
  have h3 := h 3 (by omega)
  have h4 := h 4 (by omega)
  have e : val z / 2 ^ (51 * i) % 2 ^ 51 = (z i).toNat := by
    unfold val
    rcases (by omega : i = 0 ∨ i = 1 ∨ i = 2 ∨ i = 3 ∨ i = 4) with rfl | rfl | rfl | rfl | rfl <;> omega
  rw [← e, Nat.testBit_mod_two_pow, Nat.testBit_div_two_pow]
  simp only [hs, decide_true, Bool.true_and]
  congr 1; omega
theorem bitF_get (z : F5) (h : Bnd (2 ^ 51) z) {t : Nat} (ht : t < 255) (k : Nat) : (bitF z t).getLsbD k = (decide (k = 0) && (val z).testBit t) := by
  have hl := limb_bit z h (i := t / 51) (s := t % 51) (by omega) (Nat.mod_lt _ (by omega))
  rw [show 51 * (t / 51) + t % 51 = t by omega] at hl
  unfold bitF
  rw [BitVec.getLsbD_setWidth, BitVec.getLsbD_and, BitVec.getLsbD_ushiftRight, BitVec.getLsbD_one, hl]
  by_cases hk : k = 0
  · subst hk
    simp [BitVec.getLsbD]
  · simp [hk]
theorem bitsF_get (z : F5) (h : Bnd (2 ^ 51) z) : ∀ t, t ≤ 255 → ∀ q j, (bitsF z t q).getLsbD j = (decide (j < 8) && decide (8 * q + j < t) && (val z).testBit (8 * q + j))
  | 0, _, q, j => by simp [bitsF]
  | t + 1, ht, q, j => by
    have ih := bitsF_get z h t (by omega)
    show (upd (bitsF z t) (t / 8) (bitsF z t (t / 8) ||| (bitF z t <<< (t % 8))) q).getLsbD j = _
    rw [upd_at]
    by_cases hq : q = t / 8
    · rw [if_pos hq, BitVec.getLsbD_or, BitVec.getLsbD_shiftLeft, ih, bitF_get z h (by omega), ← hq]
      by_cases hj : j < 8
      · by_cases he : 8 * q + j = t
        · have e1 : j - t % 8 = 0 := by omega
          have e2 : ¬ j < t % 8 := by omega
          have e3 : ¬ 8 * q + j < t := by omega
          have e4 : 8 * q + j < t + 1 := by omega
          simp only [hj, e1, e2, e3, e4, he, decide_true, decide_false, Bool.true_and, Bool.and_true, Bool.false_and, Bool.and_false, Bool.false_or, Bool.not_false]
          simp [Nat.lt_irrefl]
        · by_cases hl : 8 * q + j < t
          · have e2 : j < t % 8 := by omega
            have e4 : 8 * q + j < t + 1 := by omega
            simp only [hj, e2, hl, e4, decide_true, Bool.true_and, Bool.not_true, Bool.false_and, Bool.and_false, Bool.or_false]
          · have e1 : ¬ j - t % 8 = 0 := by omega
            have e4 : ¬ 8 * q + j < t + 1 := by omega
            simp only [hj, e1, hl, e4, decide_true, decide_false, Bool.true_and, Bool.false_and, Bool.and_false, Bool.or_false]
      · simp [hj]
    · rw [if_neg hq, ih]
      by_cases hj : j < 8
      · by_cases hl : 8 * q + j < t
        · have e4 : 8 * q + j < t + 1 := by omega
          simp only [hl, e4]
        · have e4 : ¬ 8 * q + j < t + 1 := by omega
          simp only [hl, e4]
      · simp [hj]
theorem bitsF_num (z : F5) (h : Bnd (2 ^ 51) z) (hv : val z < 2 ^ 255) (q : Nat) : (bitsF z 255 q).toNat = val z / 256 ^ q % 256 := by
  apply Nat.eq_of_testBit_eq
  intro j
  have hg := bitsF_get z h 255 (Nat.le_refl _) q j
  rw [BitVec.getLsbD] at hg
  rw [hg, show (256 : Nat) ^ q = 2 ^ (8 * q) by rw [Nat.pow_mul], show (256 : Nat) = 2 ^ 8 by decide, Nat.testBit_mod_two_pow, Nat.testBit_div_two_pow]
  by_cases hj : j < 8
  · by_cases hl : 8 * q + j < 255
    · simp only [hj, hl, decide_true, Bool.true_and]; congr 1; omega
    · have : (val z).testBit (j + 8 * q) = false := Nat.testBit_lt_two_pow (Nat.lt_of_lt_of_le hv (Nat.pow_le_pow_right (by decide) (by omega)))
      simp only [hj, hl, decide_true, decide_false, Bool.true_and, Bool.false_and, Bool.and_false]
      first | exact this.symm | (rw [Nat.add_comm] at this; exact this.symm)
  · simp only [hj, decide_false, Bool.false_and]
theorem numB_of (b : Nat → BitVec 8) {N : Nat} (h : ∀ q, (b q).toNat = N / 256 ^ q % 256) : ∀ n, numB b n = N % 256 ^ n
  | 0 => by simp [numB, Nat.mod_one]
  | n + 1 => by
    show numB b n + (b n).toNat * 256 ^ n = _
    rw [numB_of b h n, h n, Nat.pow_succ, Nat.mod_mul, Nat.mul_comm]
def bytesF (l : F5) : Nat → BitVec 8 := bitsF (canF l) 255
theorem bytes_num (l : F5) (h : Bnd (2 ^ 63) l) : numB (bytesF l) 32 = val l % p255 := by
  obtain ⟨hv, hb⟩ := canF_num l h
  have hlt : val l % p255 < p255 := Nat.mod_lt _ (by decide)
  have hp : p255 < 2 ^ 255 := by decide
  unfold bytesF
  rw [numB_of _ (bitsF_num (canF l) hb (by rw [hv]; omega)) 32, hv, Nat.mod_eq_of_lt (Nat.lt_of_lt_of_le hlt (by decide))]
theorem bits_congr {z z' : F5} (h : ∀ q, q < 5 → z q = z' q) : ∀ t, t ≤ 255 → bitsF z t = bitsF z' t
  | 0, _ => rfl
  | t + 1, ht => by
    simp only [bitsF, bitF]
    rw [bits_congr h t (by omega), h (t / 51) (by omega)]
theorem bytes_ok (l : F5) : field_Elem_Bytes l (bytesF l) := by
  refine ⟨_, car_ok l, _, car_ok _, qC (carF (carF l)) 5, ?_, mP (topF (carF (carF l))) 4, ?_, bytesF l, ?_, rfl⟩
  · refine Iter.count (fun i => (qC (carF (carF l)) (i + 1), i + 1)) 4 (fun i hi => ?_) ?_
    · unfold field_Elem_Bytes_l0; dsimp only
      rw [if_pos (by omega)]; rfl
    · unfold field_Elem_Bytes_l0; dsimp only
      rw [if_neg (by omega)]
  · have e := mP_zero (topF (carF (carF l)))
    have := Iter.count (step := field_Elem_Bytes_l1) (x := mP (topF (carF (carF l))) 4) (fun i => (i, mP (topF (carF (carF l))) i)) 4 (fun i hi => by
      unfold field_Elem_Bytes_l1; dsimp only
      rw [if_pos hi, mP_succ]) (by
      unfold field_Elem_Bytes_l1; dsimp only
      rw [if_neg (by omega)])
    rw [e] at this
    exact this
  · refine Iter.count (fun i => (i, bitsF (canF l) i)) 255 (fun i hi => ?_) ?_
    · unfold field_Elem_Bytes_l2; dsimp only
      rw [if_pos hi, mP_top _ (show i / 51 < 5 by omega)]
      rfl
    · unfold field_Elem_Bytes_l2; dsimp only
      rw [if_neg (by omega)]
      rfl
end Go.Proofs.YtjblfkmmbpcpaaaDoor
