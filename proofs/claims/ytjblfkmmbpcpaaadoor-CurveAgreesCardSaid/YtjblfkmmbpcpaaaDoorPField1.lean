/-
  PLAIN (own work), FIELD PART 1: bytes as a number; words; Read.
-/
import Derived.Test.YtjblfkmmbpcpaaaDoorRField
namespace Go.Proofs.YtjblfkmmbpcpaaaDoor
set_option linter.unusedSimpArgs false
set_option linter.unusedVariables false
set_option linter.unusedSectionVars false
open Go Go.LW

def numB (b : Nat → BitVec 8) : Nat → Nat
  | 0 => 0
  | n + 1 => numB b n + (b n).toNat * 256 ^ n
theorem numB_lt (b : Nat → BitVec 8) : ∀ n, numB b n < 256 ^ n
  | 0 => by simp [numB]
  | n + 1 => by
    have h := numB_lt b n
    have hb := (b n).isLt
    show numB b n + (b n).toNat * 256 ^ n < 256 ^ (n + 1)
    rw [Nat.pow_succ]
    have : (b n).toNat * 256 ^ n ≤ 255 * 256 ^ n := Nat.mul_le_mul_right _ (by omega)
    omega
theorem numB_split (b : Nat → BitVec 8) (i : Nat) : ∀ n, numB b (i + n) = numB b i + 256 ^ i * numB (fun q => b (i + q)) n
  | 0 => by simp [numB]
  | n + 1 => by
    show numB b (i + n) + (b (i + n)).toNat * 256 ^ (i + n) = numB b i + 256 ^ i * (numB (fun q => b (i + q)) n + (b (i + n)).toNat * 256 ^ n)
    rw [numB_split b i n, Nat.pow_add, Nat.mul_add, ← Nat.add_assoc, Nat.mul_left_comm]
theorem numB_div (b : Nat → BitVec 8) (i n : Nat) : numB b (i + n) / 256 ^ i = numB (fun q => b (i + q)) n := by
  rw [numB_split, Nat.add_mul_div_left _ _ (Nat.pow_pos (by decide)), Nat.div_eq_of_lt (numB_lt b i), Nat.zero_add]
theorem numB_mod (b : Nat → BitVec 8) (i n : Nat) : numB b (i + n) % 256 ^ i = numB b i := by
  rw [numB_split, Nat.add_mul_mod_self_left, Nat.mod_eq_of_lt (numB_lt b i)]

/-! ### words -/
def wd (b : Nat → BitVec 8) (i : Nat) : Nat → BitVec 64
  | 0 => 0#64
  | j + 1 => (wd b i j <<< 8) ||| ((b (i + 7 - j)).setWidth 64)
def wN (b : Nat → BitVec 8) (i : Nat) : Nat → Nat
  | 0 => 0
  | j + 1 => wN b i j * 256 + (b (i + 7 - j)).toNat
theorem wN_lt (b : Nat → BitVec 8) (i : Nat) : ∀ j, wN b i j < 256 ^ j
  | 0 => by simp [wN]
  | j + 1 => by
    have h := wN_lt b i j
    have hb := (b (i + 7 - j)).isLt
    show wN b i j * 256 + _ < 256 ^ (j + 1)
    rw [Nat.pow_succ]; omega
theorem wd_toNat (b : Nat → BitVec 8) (i : Nat) : ∀ j, j ≤ 8 → (wd b i j).toNat = wN b i j
  | 0, _ => rfl
  | j + 1, h => by
    have ih := wd_toNat b i j (by omega)
    have hl := wN_lt b i j
    have hp : 256 ^ j ≤ 256 ^ 7 := Nat.pow_le_pow_right (by decide) (by omega)
    have h56 : wN b i j < 2 ^ 56 := Nat.lt_of_lt_of_le hl (Nat.le_trans hp (by decide))
    have hb := (b (i + 7 - j)).isLt
    show ((wd b i j <<< 8) ||| ((b (i + 7 - j)).setWidth 64)).toNat = wN b i j * 256 + (b (i + 7 - j)).toNat
    rw [BitVec.toNat_or, BitVec.toNat_shiftLeft, BitVec.toNat_setWidth, ih, Nat.shiftLeft_eq, Nat.mod_eq_of_lt (by omega), Nat.mod_eq_of_lt (by omega)]
    have := Nat.two_pow_add_eq_or_of_lt (i := 8) (b := (b (i + 7 - j)).toNat) (by omega) (wN b i j)
    rw [show wN b i j * 2 ^ 8 = 2 ^ 8 * wN b i j by omega, ← this]
theorem word_ok (b : Nat → BitVec 8) {i : Nat} (hi : i ≤ 24) : field_word b (i : Int) (wd b i 8) := by
  refine ⟨_, ?_, rfl⟩
  refine Iter.count (fun j => (wd b i j, 7 - (j : Int))) 8 (fun j hj => ?_) ?_
  · unfold field_word_l0; dsimp only
    rw [if_pos (by omega)]
    refine ⟨by omega, by omega, by omega, ?_⟩
    rw [show ((i : Int) + (7 - (j : Int))).toNat = i + 7 - j by omega, show (7 : Int) - (j : Int) - 1 = 7 - ((j + 1 : Nat) : Int) by omega]
    rfl
  · unfold field_word_l0; dsimp only
    rw [if_neg (by omega)]
theorem word_num (b : Nat → BitVec 8) {i : Nat} (hi : i ≤ 24) : (wd b i 8).toNat = numB b 32 / 256 ^ i % 2 ^ 64 := by
  rw [wd_toNat b i 8 (Nat.le_refl _)]
  have h := numB_div b i (32 - i)
  rw [show i + (32 - i) = 32 by omega] at h
  rw [h]
  have h2 := numB_mod (fun q => b (i + q)) 8 (24 - i)
  rw [show 8 + (24 - i) = 32 - i by omega] at h2
  rw [show (2 : Nat) ^ 64 = 256 ^ 8 by decide, h2]
  simp only [wN, numB, show i + 7 - 0 = i + 7 by omega, show i + 7 - 1 = i + 6 by omega, show i + 7 - 2 = i + 5 by omega, show i + 7 - 3 = i + 4 by omega, show i + 7 - 4 = i + 3 by omega, show i + 7 - 5 = i + 2 by omega, show i + 7 - 6 = i + 1 by omega, show i + 7 - 7 = i + 0 by omega]
  omega

/-! ### limbs -/
abbrev F5 := Nat → BitVec 64
def val (l : F5) : Nat := (l 0).toNat + (l 1).toNat * 2 ^ 51 + (l 2).toNat * 2 ^ 102 + (l 3).toNat * 2 ^ 153 + (l 4).toNat * 2 ^ 204
def Bnd (B : Nat) (l : F5) : Prop := ∀ i, i < 5 → (l i).toNat < B
theorem mask_toNat (x : BitVec 64) : (x &&& 2251799813685247#64).toNat = x.toNat % 2 ^ 51 := by
  rw [BitVec.toNat_and, show (2251799813685247#64).toNat = 2 ^ 51 - 1 by decide, Nat.and_two_pow_sub_one_eq_mod]
theorem shr_toNat (x : BitVec 64) (s : Nat) : (x >>> s).toNat = x.toNat / 2 ^ s := by rw [BitVec.toNat_ushiftRight, Nat.shiftRight_eq_div_pow]
def readF (b : Nat → BitVec 8) : F5 := lit [wd b 0 8 &&& 2251799813685247#64, (wd b 6 8 >>> 3) &&& 2251799813685247#64, (wd b 12 8 >>> 6) &&& 2251799813685247#64, (wd b 19 8 >>> 1) &&& 2251799813685247#64, (wd b 24 8 >>> 12) &&& 2251799813685247#64]
theorem read_ok (b : Nat → BitVec 8) : field_Read b (readF b) :=
  ⟨_, word_ok b (i := 0) (by omega), _, word_ok b (i := 6) (by omega), _, word_ok b (i := 12) (by omega), _, word_ok b (i := 19) (by omega), _, word_ok b (i := 24) (by omega), rfl⟩
theorem readF_bnd (b : Nat → BitVec 8) : Bnd (2 ^ 51) (readF b) := fun i hi => by
  rcases (by omega : i = 0 ∨ i = 1 ∨ i = 2 ∨ i = 3 ∨ i = 4) with rfl | rfl | rfl | rfl | rfl <;> (show (_ &&& 2251799813685247#64 : BitVec 64).toNat < _; rw [mask_toNat]; omega)
theorem readF_val (b : Nat → BitVec 8) : val (readF b) = numB b 32 % 2 ^ 255 := by
  unfold val
  have h0 : (readF b 0).toNat = numB b 32 % 2 ^ 51 := by
    show (wd b 0 8 &&& 2251799813685247#64).toNat = _
    rw [mask_toNat, word_num b (by omega)]; omega
  have h1 : (readF b 1).toNat = numB b 32 / 2 ^ 51 % 2 ^ 51 := by
    show ((wd b 6 8 >>> 3) &&& 2251799813685247#64).toNat = _
    rw [mask_toNat, shr_toNat, word_num b (by omega)]; omega
  have h2 : (readF b 2).toNat = numB b 32 / 2 ^ 102 % 2 ^ 51 := by
    show ((wd b 12 8 >>> 6) &&& 2251799813685247#64).toNat = _
    rw [mask_toNat, shr_toNat, word_num b (by omega)]; omega
  have h3 : (readF b 3).toNat = numB b 32 / 2 ^ 153 % 2 ^ 51 := by
    show ((wd b 19 8 >>> 1) &&& 2251799813685247#64).toNat = _
    rw [mask_toNat, shr_toNat, word_num b (by omega)]; omega
  have h4 : (readF b 4).toNat = numB b 32 / 2 ^ 204 % 2 ^ 51 := by
    show ((wd b 24 8 >>> 12) &&& 2251799813685247#64).toNat = _
    rw [mask_toNat, shr_toNat, word_num b (by omega)]; omega
  rw [h0, h1, h2, h3, h4]
  omega
end Go.Proofs.YtjblfkmmbpcpaaaDoor
