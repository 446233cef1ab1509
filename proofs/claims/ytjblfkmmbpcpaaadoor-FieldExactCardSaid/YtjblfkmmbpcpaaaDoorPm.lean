import Derived.Test.YtjblfkmmbpcpaaaDoorRField
import Derived.Test.YtjblfkmmbpcpaaaDoorFldT
import Derived.Test.YtjblfkmmbpcpaaaDoorRFieldRoots
import Derived.Test.YtjblfkmmbpcpaaaDoorRRef06

/-
  PLAIN (own work), FIELD PART 1: bytes as a number; words; Read.
-/
namespace Go.Proofs.YtjblfkmmbpcpaaaDoor
set_option linter.unusedSimpArgs false
set_option linter.unusedVariables false
set_option linter.unusedSectionVars false
open Go Go.LW

def numB (b : Nat → BitVec 8) : Nat → Nat
  | 0 => 0
  | n + 1 => numB b n + (b n).toNat * 256 ^ n
theorem numB_lt (b : Nat → BitVec 8) : ∀ n, numB b n < 256 ^ n
  | 0 => by simp [numB]
  | n + 1 => by
    have h := numB_lt b n
    have hb := (b n).isLt
    show numB b n + (b n).toNat * 256 ^ n < 256 ^ (n + 1)
    rw [Nat.pow_succ]
    have : (b n).toNat * 256 ^ n ≤ 255 * 256 ^ n := Nat.mul_le_mul_right _ (by omega)
    omega
theorem numB_split (b : Nat → BitVec 8) (i : Nat) : ∀ n, numB b (i + n) = numB b i + 256 ^ i * numB (fun q => b (i + q)) n
  | 0 => by simp [numB]
  | n + 1 => by
    show numB b (i + n) + (b (i + n)).toNat * 256 ^ (i + n) = numB b i + 256 ^ i * (numB (fun q => b (i + q)) n + (b (i + n)).toNat * 256 ^ n)
    rw [numB_split b i n, Nat.pow_add, Nat.mul_add, ← Nat.add_assoc, Nat.mul_left_comm]
theorem numB_div (b : Nat → BitVec 8) (i n : Nat) : numB b (i + n) / 256 ^ i = numB (fun q => b (i + q)) n := by
  rw [numB_split, Nat.add_mul_div_left _ _ (Nat.pow_pos (by decide)), Nat.div_eq_of_lt (numB_lt b i), Nat.zero_add]
theorem numB_mod (b : Nat → BitVec 8) (i n : Nat) : numB b (i + n) % 256 ^ i = numB b i := by
  rw [numB_split, Nat.add_mul_mod_self_left, Nat.mod_eq_of_lt (numB_lt b i)]

/-! ### words -/
def wd (b : Nat → BitVec 8) (i : Nat) : Nat → BitVec 64
  | 0 => 0#64
  | j + 1 => (wd b i j <<< 8) ||| ((b (i + 7 - j)).setWidth 64)
def wN (b : Nat → BitVec 8) (i : Nat) : Nat → Nat
  | 0 => 0
  | j + 1 => wN b i j * 256 + (b (i + 7 - j)).toNat
theorem wN_lt (b : Nat → BitVec 8) (i : Nat) : ∀ j, wN b i j < 256 ^ j
  | 0 => by simp [wN]
  | j + 1 => by
    have h := wN_lt b i j
    have hb := (b (i + 7 - j)).isLt
    show wN b i j * 256 + _ < 256 ^ (j + 1)
    rw [Nat.pow_succ]; omega
theorem wd_toNat (b : Nat → BitVec 8) (i : Nat) : ∀ j, j ≤ 8 → (wd b i j).toNat = wN b i j
  | 0, _ => rfl
  | j + 1, h => by
    have ih := wd_toNat b i j (by omega)
    have hl := wN_lt b i j
    have hp : 256 ^ j ≤ 256 ^ 7 := Nat.pow_le_pow_right (by decide) (by omega)
    have h56 : wN b i j < 2 ^ 56 := Nat.lt_of_lt_of_le hl (Nat.le_trans hp (by decide))
    have hb := (b (i + 7 - j)).isLt
    show ((wd b i j <<< 8) ||| ((b (i + 7 - j)).setWidth 64)).toNat = wN b i j * 256 + (b (i + 7 - j)).toNat
    rw [BitVec.toNat_or, BitVec.toNat_shiftLeft, BitVec.toNat_setWidth, ih, Nat.shiftLeft_eq, Nat.mod_eq_of_lt (by omega), Nat.mod_eq_of_lt (by omega)]
    have := Nat.two_pow_add_eq_or_of_lt (i := 8) (b := (b (i + 7 - j)).toNat) (by omega) (wN b i j)
    rw [show wN b i j * 2 ^ 8 = 2 ^ 8 * wN b i j by omega, ← this]
theorem word_ok (b : Nat → BitVec 8) {i : Nat} (hi : i ≤ 24) : field_word b (i : Int) (wd b i 8) := by
  refine ⟨_, ?_, rfl⟩
  refine Iter.count (fun j => (wd b i j, 7 - (j : Int))) 8 (fun j hj => ?_) ?_
  · unfold field_word_l0; dsimp only
    rw [if_pos (by omega)]
    refine ⟨by omega, by omega, by omega, ?_⟩
    rw [show ((i : Int) + (7 - (j : Int))).toNat = i + 7 - j by omega, show (7 : Int) - (j : Int) - 1 = 7 - ((j + 1 : Nat) : Int) by omega]
    rfl
  · unfold field_word_l0; dsimp only
    rw [if_neg (by omega)]
theorem word_num (b : Nat → BitVec 8) {i : Nat} (hi : i ≤ 24) : (wd b i 8).toNat = numB b 32 / 256 ^ i % 2 ^ 64 := by
  rw [wd_toNat b i 8 (Nat.le_refl _)]
  have h := numB_div b i (32 - i)
  rw [show i + (32 - i) = 32 by omega] at h
  rw [h]
  have h2 := numB_mod (fun q => b (i + q)) 8 (24 - i)
  rw [show 8 + (24 - i) = 32 - i by omega] at h2
  rw [show (2 : Nat) ^ 64 = 256 ^ 8 by decide, h2]
  simp only [wN, numB, show i + 7 - 0 = i + 7 by omega, show i + 7 - 1 = i + 6 by omega, show i + 7 - 2 = i + 5 by omega, show i + 7 - 3 = i + 4 by omega, show i + 7 - 4 = i + 3 by omega, show i + 7 - 5 = i + 2 by omega, show i + 7 - 6 = i + 1 by omega, show i + 7 - 7 = i + 0 by omega]
  omega

/-! ### limbs -/
abbrev F5 := Nat → BitVec 64
def val (l : F5) : Nat := (l 0).toNat + (l 1).toNat * 2 ^ 51 + (l 2).toNat * 2 ^ 102 + (l 3).toNat * 2 ^ 153 + (l 4).toNat * 2 ^ 204
def Bnd (B : Nat) (l : F5) : Prop := ∀ i, i < 5 → (l i).toNat < B
theorem mask_toNat (x : BitVec 64) : (x &&& 2251799813685247#64).toNat = x.toNat % 2 ^ 51 := by
  rw [BitVec.toNat_and, show (2251799813685247#64).toNat = 2 ^ 51 - 1 by decide, Nat.and_two_pow_sub_one_eq_mod]
theorem shr_toNat (x : BitVec 64) (s : Nat) : (x >>> s).toNat = x.toNat / 2 ^ s := by rw [BitVec.toNat_ushiftRight, Nat.shiftRight_eq_div_pow]
def readF (b : Nat → BitVec 8) : F5 := lit [wd b 0 8 &&& 2251799813685247#64, (wd b 6 8 >>> 3) &&& 2251799813685247#64, (wd b 12 8 >>> 6) &&& 2251799813685247#64, (wd b 19 8 >>> 1) &&& 2251799813685247#64, (wd b 24 8 >>> 12) &&& 2251799813685247#64]
theorem read_ok (b : Nat → BitVec 8) : field_Read b (readF b) :=
  ⟨_, word_ok b (i := 0) (by omega), _, word_ok b (i := 6) (by omega), _, word_ok b (i := 12) (by omega), _, word_ok b (i := 19) (by omega), _, word_ok b (i := 24) (by omega), rfl⟩
theorem readF_bnd (b : Nat → BitVec 8) : Bnd (2 ^ 51) (readF b) := fun i hi => by
  rcases (by omega : i = 0 ∨ i = 1 ∨ i = 2 ∨ i = 3 ∨ i = 4) with rfl | rfl | rfl | rfl | rfl <;> (show (_ &&& 2251799813685247#64 : BitVec 64).toNat < _; rw [mask_toNat]; omega)
theorem readF_val (b : Nat → BitVec 8) : val (readF b) = numB b 32 % 2 ^ 255 := by
  unfold val
  have h0 : (readF b 0).toNat = numB b 32 % 2 ^ 51 := by
    show (wd b 0 8 &&& 2251799813685247#64).toNat = _
    rw [mask_toNat, word_num b (by omega)]; omega
  have h1 : (readF b 1).toNat = numB b 32 / 2 ^ 51 % 2 ^ 51 := by
    show ((wd b 6 8 >>> 3) &&& 2251799813685247#64).toNat = _
    rw [mask_toNat, shr_toNat, word_num b (by omega)]; omega
  have h2 : (readF b 2).toNat = numB b 32 / 2 ^ 102 % 2 ^ 51 := by
    show ((wd b 12 8 >>> 6) &&& 2251799813685247#64).toNat = _
    rw [mask_toNat, shr_toNat, word_num b (by omega)]; omega
  have h3 : (readF b 3).toNat = numB b 32 / 2 ^ 153 % 2 ^ 51 := by
    show ((wd b 19 8 >>> 1) &&& 2251799813685247#64).toNat = _
    rw [mask_toNat, shr_toNat, word_num b (by omega)]; omega
  have h4 : (readF b 4).toNat = numB b 32 / 2 ^ 204 % 2 ^ 51 := by
    show ((wd b 24 8 >>> 12) &&& 2251799813685247#64).toNat = _
    rw [mask_toNat, shr_toNat, word_num b (by omega)]; omega
  rw [h0, h1, h2, h3, h4]
  omega
end Go.Proofs.YtjblfkmmbpcpaaaDoor

/-
  PLAIN (own work), FIELD PART 2: carries; the one number below the prime.
-/
namespace Go.Proofs.YtjblfkmmbpcpaaaDoor
set_option linter.unusedSimpArgs false
set_option linter.unusedVariables false
set_option linter.unusedSectionVars false
open Go Go.LW

def p255 : Nat := 2 ^ 255 - 19

/-! ### carried -/
def carC (l : F5) : Nat → BitVec 64
  | 0 => 0#64
  | i + 1 => (l i + carC l i) >>> 51
def carM (l : F5) (i : Nat) : F5 := fun q => if q < i then (l q + carC l q) &&& 2251799813685247#64 else l q
def carF (l : F5) : F5 := upd (carM l 5) 0 (carM l 5 0 + 19#64 * carC l 5)
theorem carM_succ (l : F5) (i : Nat) : upd (upd (carM l i) i (carM l i i + carC l i)) i ((upd (carM l i) i (carM l i i + carC l i)) i &&& 2251799813685247#64) = carM l (i + 1) := by
  funext q
  rw [upd_at, upd_same, upd_at]
  unfold carM
  by_cases h : q = i
  · subst h; rw [if_pos rfl, if_neg (by omega), if_pos (by omega)]
  · rw [if_neg h, if_neg h]
    by_cases h2 : q < i
    · rw [if_pos h2, if_pos (by omega)]
    · rw [if_neg h2, if_neg (by omega)]
theorem car_ok (l : F5) : field_limbs_carried l (carF l) := by
  refine ⟨carC l 5, carM l 5, ?_, rfl⟩
  refine Iter.count (fun i => (carC l i, i, carM l i)) 5 (fun i hi => ?_) ?_
  · unfold field_limbs_carried_l0; dsimp only
    rw [if_pos hi, carM_succ, upd_same]
    have e : carM l i i = l i := if_neg (by omega)
    rw [e]
    rfl
  · unfold field_limbs_carried_l0; dsimp only
    rw [if_neg (by omega)]
theorem carC_num (l : F5) (h : Bnd (2 ^ 63) l) : ∀ i, i < 5 → (carC l i).toNat < 2 ^ 13 ∧ (carC l (i + 1)).toNat = ((l i).toNat + (carC l i).toNat) / 2 ^ 51
  | 0, hi => by
    refine ⟨by show (0#64 : BitVec 64).toNat < _; decide, ?_⟩
    show ((l 0 + carC l 0) >>> 51).toNat = _
    have := h 0 hi
    rw [shr_toNat, BitVec.toNat_add, Nat.mod_eq_of_lt (by show _ + (0#64 : BitVec 64).toNat < _; rw [BitVec.toNat_ofNat]; omega)]
  | i + 1, hi => by
    obtain ⟨h1, h2⟩ := carC_num l h i (by omega)
    have ha := h i (by omega)
    have hb := h (i + 1) hi
    have hc : (carC l (i + 1)).toNat < 2 ^ 13 := by rw [h2]; omega
    refine ⟨hc, ?_⟩
    show ((l (i + 1) + carC l (i + 1)) >>> 51).toNat = _
    rw [shr_toNat, BitVec.toNat_add, Nat.mod_eq_of_lt (by omega)]
theorem carM_num (l : F5) (h : Bnd (2 ^ 63) l) {q : Nat} (hq : q < 5) : (carM l 5 q).toNat = ((l q).toNat + (carC l q).toNat) % 2 ^ 51 := by
  have h1 := (carC_num l h q hq).1
  have h2 := h q hq
  unfold carM
  rw [if_pos hq, mask_toNat, BitVec.toNat_add, Nat.mod_eq_of_lt (show _ + _ < 2 ^ 64 by omega)]
theorem carF_num (l : F5) (h : Bnd (2 ^ 63) l) : ∃ c, (carC l 5).toNat = c ∧ c ≤ 4096 ∧ val (carF l) + c * 2 ^ 255 = val l + 19 * c ∧ (carF l 0).toNat = (l 0).toNat % 2 ^ 51 + 19 * c ∧ (∀ q, 0 < q → q < 5 → (carF l q).toNat < 2 ^ 51) := by
  have c0 : (carC l 0).toNat = 0 := rfl
  have c1 : (carC l 1).toNat = ((l 0).toNat + (carC l 0).toNat) / 2 ^ 51 := (carC_num l h 0 (by omega)).2
  have c2 : (carC l 2).toNat = ((l 1).toNat + (carC l 1).toNat) / 2 ^ 51 := (carC_num l h 1 (by omega)).2
  have c3 : (carC l 3).toNat = ((l 2).toNat + (carC l 2).toNat) / 2 ^ 51 := (carC_num l h 2 (by omega)).2
  have c4 : (carC l 4).toNat = ((l 3).toNat + (carC l 3).toNat) / 2 ^ 51 := (carC_num l h 3 (by omega)).2
  have c5 : (carC l 5).toNat = ((l 4).toNat + (carC l 4).toNat) / 2 ^ 51 := (carC_num l h 4 (by omega)).2
  have m0 := carM_num l h (q := 0) (by omega)
  have m1 := carM_num l h (q := 1) (by omega)
  have m2 := carM_num l h (q := 2) (by omega)
  have m3 := carM_num l h (q := 3) (by omega)
  have m4 := carM_num l h (q := 4) (by omega)
  have b0 := h 0 (by omega)
  have b1 := h 1 (by omega)
  have b2 := h 2 (by omega)
  have b3 := h 3 (by omega)
  have b4 := h 4 (by omega)
  have d4 := (carC_num l h 4 (by omega)).1
  have hc : (carC l 5).toNat ≤ 4096 := by omega
  have e0 : (carF l 0).toNat = (carM l 5 0).toNat + 19 * (carC l 5).toNat := by
    show (upd (carM l 5) 0 (carM l 5 0 + 19#64 * carC l 5) 0).toNat = _
    rw [upd_same, BitVec.toNat_add, BitVec.toNat_mul, show (19#64 : BitVec 64).toNat = 19 by decide, Nat.mod_eq_of_lt (show 19 * (carC l 5).toNat < 2 ^ 64 by omega), Nat.mod_eq_of_lt (by omega)]
  have eq : ∀ q, 0 < q → carF l q = carM l 5 q := fun q hq => upd_ne _ _ _ _ (by omega)
  refine ⟨_, rfl, hc, ?_, ?_, fun q h0 h5 => ?_⟩
  · unfold val
    rw [e0, eq 1 (by omega), eq 2 (by omega), eq 3 (by omega), eq 4 (by omega), m0, m1, m2, m3, m4]
    rw [c0] at m0 c1
    generalize (carC l 1).toNat = k1 at *
    generalize (carC l 2).toNat = k2 at *
    generalize (carC l 3).toNat = k3 at *
    generalize (carC l 4).toNat = k4 at *
    generalize (carC l 5).toNat = k5 at *
    omega
  · rw [e0, m0, c0, Nat.add_zero]
  · rw [eq q h0, carM_num l h h5]; omega
theorem carF_mod (l : F5) (h : Bnd (2 ^ 63) l) : val (carF l) % p255 = val l % p255 := by
  obtain ⟨c, _, _, hv, _⟩ := carF_num l h
  have : val l = val (carF l) + p255 * c := by unfold p255; omega
  rw [this, Nat.add_mul_mod_self_left]
theorem carF_bnd (l : F5) (h : Bnd (2 ^ 63) l) : Bnd (2 ^ 52) (carF l) := fun q hq => by
  obtain ⟨c, _, hc, _, h0, hr⟩ := carF_num l h
  by_cases e : q = 0
  · subst e; rw [h0]; omega
  · have := hr q (by omega) hq; omega
/-- carried twice: just above the prime at most -/
theorem carF2_num (l : F5) (h : Bnd (2 ^ 63) l) : val (carF (carF l)) < 2 ^ 255 + 19 ∧ (carF (carF l) 0).toNat < 2 ^ 51 + 19 ∧ (∀ q, 0 < q → q < 5 → (carF (carF l) q).toNat < 2 ^ 51) := by
  obtain ⟨c, hc0, hc, hv, h0, hr⟩ := carF_num l h
  have hb : Bnd (2 ^ 63) (carF l) := fun q hq => Nat.lt_of_lt_of_le (carF_bnd l h q hq) (by decide)
  obtain ⟨d, hd0, hd, hw, g0, gr⟩ := carF_num (carF l) hb
  have r1 := hr 1 (by omega) (by omega)
  have r2 := hr 2 (by omega) (by omega)
  have r3 := hr 3 (by omega) (by omega)
  have r4 := hr 4 (by omega) (by omega)
  have s1 := gr 1 (by omega) (by omega)
  have s2 := gr 2 (by omega) (by omega)
  have s3 := gr 3 (by omega) (by omega)
  have s4 := gr 4 (by omega) (by omega)
  have hlt : val (carF l) < 2 ^ 255 + 2 ^ 52 := by unfold val; omega
  have hd1 : d ≤ 1 := by omega
  have h00 : (carF (carF l) 0).toNat < 2 ^ 51 + 19 := by
    rw [g0]
    have := Nat.mod_lt (carF l 0).toNat (show 0 < 2 ^ 51 by decide)
    by_cases hz : d = 0
    · omega
    · omega
  refine ⟨?_, ?_, gr⟩
  · unfold val; omega
  · rw [g0]
    have := Nat.mod_lt (carF l 0).toNat (show 0 < 2 ^ 51 by decide)
    omega
end Go.Proofs.YtjblfkmmbpcpaaaDoor

/-
  PLAIN (own work), FIELD PART 3: the one form of 32 bytes.
-/
namespace Go.Proofs.YtjblfkmmbpcpaaaDoor
set_option linter.unusedSimpArgs false
set_option linter.unusedVariables false
set_option linter.unusedSectionVars false
open Go Go.LW

/-! ### the number below the prime -/
def qC (x : F5) : Nat → BitVec 64
  | 0 => 19#64
  | i + 1 => (x i + qC x i) >>> 51
def topF (x : F5) : F5 := upd x 0 (x 0 + 19#64 * qC x 5)
def mP (y : F5) (t : Nat) : F5 := fun q => if q < t then (y q + carC y q) &&& 2251799813685247#64 else if q = t then y q + carC y q else y q
def canF (l : F5) : F5 := carM (topF (carF (carF l))) 5
theorem mP_zero (y : F5) : mP y 0 = y := by
  funext q
  unfold mP
  rw [if_neg (by omega)]
  by_cases h : q = 0
  · subst h; rw [if_pos rfl]; show y 0 + 0#64 = y 0; rw [BitVec.add_zero]
  · rw [if_neg h]
theorem mP_succ (y : F5) (t : Nat) : upd (upd (mP y t) (t + 1) (mP y t (t + 1) + (mP y t t >>> 51))) t ((upd (mP y t) (t + 1) (mP y t (t + 1) + (mP y t t >>> 51))) t &&& 2251799813685247#64) = mP y (t + 1) := by
  have e1 : mP y t t = y t + carC y t := by unfold mP; rw [if_neg (by omega), if_pos rfl]
  have e2 : mP y t (t + 1) = y (t + 1) := by unfold mP; rw [if_neg (by omega), if_neg (by omega)]
  funext q
  rw [upd_at]
  by_cases h : q = t
  · subst h
    rw [if_pos rfl, upd_ne _ _ _ _ (by omega), e1]
    unfold mP; rw [if_pos (by omega)]
  · rw [if_neg h, upd_at]
    by_cases h1 : q = t + 1
    · subst h1
      rw [if_pos rfl, e1, e2]
      unfold mP; rw [if_neg (by omega), if_pos rfl]; rfl
    · rw [if_neg h1]
      unfold mP
      by_cases h2 : q < t
      · rw [if_pos h2, if_pos (by omega)]
      · rw [if_neg h2, if_neg h, if_neg (by omega), if_neg h1]
theorem mP_top (y : F5) {q : Nat} (hq : q < 5) : upd (mP y 4) 4 (mP y 4 4 &&& 2251799813685247#64) q = carM y 5 q := by
  rw [upd_at]
  unfold mP carM
  by_cases h : q = 4
  · subst h; rw [if_pos rfl, if_neg (by omega), if_pos rfl, if_pos (by omega)]
  · rw [if_neg h, if_pos (by omega), if_pos hq]
theorem qC_num (x : F5) (h : Bnd (2 ^ 52) x) : ∀ i, i < 5 → (qC x i).toNat ≤ 19 ∧ (qC x (i + 1)).toNat = ((x i).toNat + (qC x i).toNat) / 2 ^ 51
  | 0, hi => by
    have := h 0 hi
    refine ⟨by show (19#64 : BitVec 64).toNat ≤ _; decide, ?_⟩
    show ((x 0 + qC x 0) >>> 51).toNat = _
    rw [shr_toNat, BitVec.toNat_add, Nat.mod_eq_of_lt (by show _ + (19#64 : BitVec 64).toNat < _; rw [BitVec.toNat_ofNat]; omega)]
  | i + 1, hi => by
    obtain ⟨h1, h2⟩ := qC_num x h i (by omega)
    have ha := h i (by omega)
    have hb := h (i + 1) hi
    have hc : (qC x (i + 1)).toNat ≤ 19 := by rw [h2]; omega
    refine ⟨hc, ?_⟩
    show ((x (i + 1) + qC x (i + 1)) >>> 51).toNat = _
    rw [shr_toNat, BitVec.toNat_add, Nat.mod_eq_of_lt (by omega)]
theorem canF_num (l : F5) (h : Bnd (2 ^ 63) l) : val (canF l) = val l % p255 ∧ Bnd (2 ^ 51) (canF l) := by
  obtain ⟨hx, hx0, hxr⟩ := carF2_num l h
  have hb1 : Bnd (2 ^ 63) (carF l) := fun q hq => Nat.lt_of_lt_of_le (carF_bnd l h q hq) (by decide)
  have hmod : val (carF (carF l)) % p255 = val l % p255 := by rw [carF_mod _ hb1, carF_mod _ h]
  unfold canF
  generalize carF (carF l) = x at hx hx0 hxr hmod ⊢
  have hb : Bnd (2 ^ 52) x := fun q hq => by
    by_cases e : q = 0
    · subst e; omega
    · have := hxr q (by omega) hq; omega
  have q0 : (qC x 0).toNat = 19 := rfl
  have q1 : (qC x 1).toNat = ((x 0).toNat + (qC x 0).toNat) / 2 ^ 51 := (qC_num x hb 0 (by omega)).2
  have q2 : (qC x 2).toNat = ((x 1).toNat + (qC x 1).toNat) / 2 ^ 51 := (qC_num x hb 1 (by omega)).2
  have q3 : (qC x 3).toNat = ((x 2).toNat + (qC x 2).toNat) / 2 ^ 51 := (qC_num x hb 2 (by omega)).2
  have q4 : (qC x 4).toNat = ((x 3).toNat + (qC x 3).toNat) / 2 ^ 51 := (qC_num x hb 3 (by omega)).2
  have q5 : (qC x 5).toNat = ((x 4).toNat + (qC x 4).toNat) / 2 ^ 51 := (qC_num x hb 4 (by omega)).2
  have b1 := hxr 1 (by omega) (by omega)
  have b2 := hxr 2 (by omega) (by omega)
  have b3 := hxr 3 (by omega) (by omega)
  have b4 := hxr 4 (by omega) (by omega)
  have hQ : (qC x 5).toNat = (val x + 19) / 2 ^ 255 := by
    unfold val
    rw [q0] at q1
    generalize (qC x 1).toNat = k1 at *
    generalize (qC x 2).toNat = k2 at *
    generalize (qC x 3).toNat = k3 at *
    generalize (qC x 4).toNat = k4 at *
    omega
  have hQ1 : (qC x 5).toNat ≤ 1 := by omega
  have t0 : (topF x 0).toNat = (x 0).toNat + 19 * (qC x 5).toNat := by
    show (upd x 0 (x 0 + 19#64 * qC x 5) 0).toNat = _
    rw [upd_same, BitVec.toNat_add, BitVec.toNat_mul, show (19#64 : BitVec 64).toNat = 19 by decide, Nat.mod_eq_of_lt (show 19 * (qC x 5).toNat < 2 ^ 64 by omega), Nat.mod_eq_of_lt (by omega)]
  have tq : ∀ q, 0 < q → topF x q = x q := fun q hq => upd_ne _ _ _ _ (by omega)
  have hy : Bnd (2 ^ 63) (topF x) := fun q hq => by
    by_cases e : q = 0
    · subst e; omega
    · rw [tq q (by omega)]; have := hxr q (by omega) hq; omega
  have hyv : val (topF x) = val x + 19 * (qC x 5).toNat := by
    unfold val; rw [t0, tq 1 (by omega), tq 2 (by omega), tq 3 (by omega), tq 4 (by omega)]; omega
  generalize topF x = y at hy hyv ⊢
  have c0 : (carC y 0).toNat = 0 := rfl
  have c1 : (carC y 1).toNat = ((y 0).toNat + (carC y 0).toNat) / 2 ^ 51 := (carC_num y hy 0 (by omega)).2
  have c2 : (carC y 2).toNat = ((y 1).toNat + (carC y 1).toNat) / 2 ^ 51 := (carC_num y hy 1 (by omega)).2
  have c3 : (carC y 3).toNat = ((y 2).toNat + (carC y 2).toNat) / 2 ^ 51 := (carC_num y hy 2 (by omega)).2
  have c4 : (carC y 4).toNat = ((y 3).toNat + (carC y 3).toNat) / 2 ^ 51 := (carC_num y hy 3 (by omega)).2
  have m0 := carM_num y hy (q := 0) (by omega)
  have m1 := carM_num y hy (q := 1) (by omega)
  have m2 := carM_num y hy (q := 2) (by omega)
  have m3 := carM_num y hy (q := 3) (by omega)
  have m4 := carM_num y hy (q := 4) (by omega)
  have hz : val (carM y 5) = val y % 2 ^ 255 := by
    unfold val
    rw [m0, m1, m2, m3, m4]
    rw [c0] at c1 m0
    rw [c0]
    generalize (carC y 1).toNat = k1 at *
    generalize (carC y 2).toNat = k2 at *
    generalize (carC y 3).toNat = k3 at *
    generalize (carC y 4).toNat = k4 at *
    omega
  refine ⟨?_, fun q hq => by rw [carM_num y hy hq]; omega⟩
  rw [hz, ← hmod, hyv]
  rw [show p255 = 57896044618658097711785492504343953926634992332820282019728792003956564819949 by decide]
  generalize (qC x 5).toNat = Q at hQ hQ1 ⊢
  generalize val x = v at hx hQ ⊢
  clear hmod hyv hz m0 m1 m2 m3 m4 c0 c1 c2 c3 c4 q0 q1 q2 q3 q4 q5
  rcases (by omega : Q = 0 ∨ Q = 1) with rfl | rfl
  · have hv : v < 57896044618658097711785492504343953926634992332820282019728792003956564819949 := by omega
    rw [Nat.mul_zero, Nat.add_zero, Nat.mod_eq_of_lt hv, Nat.mod_eq_of_lt (by omega)]
  · have hv : 57896044618658097711785492504343953926634992332820282019728792003956564819949 ≤ v := by omega
    rw [Nat.mod_eq_sub_mod hv, Nat.mod_eq_of_lt (show v - 57896044618658097711785492504343953926634992332820282019728792003956564819949 < 57896044618658097711785492504343953926634992332820282019728792003956564819949 by omega), Nat.mod_eq_sub_mod (show 2 ^ 255 ≤ v + 19 * 1 by omega), Nat.mod_eq_of_lt (by omega)]
    omega
end Go.Proofs.YtjblfkmmbpcpaaaDoor

/-
  PLAIN (own work), FIELD PART 4: bit by bit; Bytes.
-/
namespace Go.Proofs.YtjblfkmmbpcpaaaDoor
set_option linter.unusedSimpArgs false
set_option linter.unusedVariables false
set_option linter.unusedSectionVars false
open Go Go.LW

def bitF (z : F5) (t : Nat) : BitVec 8 := (((z (t / 51)) >>> (t % 51)) &&& 1#64).setWidth 8
def bitsF (z : F5) : Nat → (Nat → BitVec 8)
  | 0 => fun _ => 0#8
  | t + 1 => upd (bitsF z t) (t / 8) (bitsF z t (t / 8) ||| (bitF z t <<< (t % 8)))
theorem limb_bit (z : F5) (h : Bnd (2 ^ 51) z) {i s : Nat} (hi : i < 5) (hs : s < 51) : (val z).testBit (51 * i + s) = (z i).toNat.testBit s := by
  have h0 := h 0 (by omega)
  have h1 := h 1 (by omega)
  have h2 := h 2 (by omega)
  have h3 := h 3 (by omega)
  have h4 := h 4 (by omega)
  have e : val z / 2 ^ (51 * i) % 2 ^ 51 = (z i).toNat := by
    unfold val
    rcases (by omega : i = 0 ∨ i = 1 ∨ i = 2 ∨ i = 3 ∨ i = 4) with rfl | rfl | rfl | rfl | rfl <;> omega
  rw [← e, Nat.testBit_mod_two_pow, Nat.testBit_div_two_pow]
  simp only [hs, decide_true, Bool.true_and]
  congr 1; omega
theorem bitF_get (z : F5) (h : Bnd (2 ^ 51) z) {t : Nat} (ht : t < 255) (k : Nat) : (bitF z t).getLsbD k = (decide (k = 0) && (val z).testBit t) := by
  have hl := limb_bit z h (i := t / 51) (s := t % 51) (by omega) (Nat.mod_lt _ (by omega))
  rw [show 51 * (t / 51) + t % 51 = t by omega] at hl
  unfold bitF
  rw [BitVec.getLsbD_setWidth, BitVec.getLsbD_and, BitVec.getLsbD_ushiftRight, BitVec.getLsbD_one, hl]
  by_cases hk : k = 0
  · subst hk
    simp [BitVec.getLsbD]
  · simp [hk]
theorem bitsF_get (z : F5) (h : Bnd (2 ^ 51) z) : ∀ t, t ≤ 255 → ∀ q j, (bitsF z t q).getLsbD j = (decide (j < 8) && decide (8 * q + j < t) && (val z).testBit (8 * q + j))
  | 0, _, q, j => by simp [bitsF]
  | t + 1, ht, q, j => by
    have ih := bitsF_get z h t (by omega)
    show (upd (bitsF z t) (t / 8) (bitsF z t (t / 8) ||| (bitF z t <<< (t % 8))) q).getLsbD j = _
    rw [upd_at]
    by_cases hq : q = t / 8
    · rw [if_pos hq, BitVec.getLsbD_or, BitVec.getLsbD_shiftLeft, ih, bitF_get z h (by omega), ← hq]
      by_cases hj : j < 8
      · by_cases he : 8 * q + j = t
        · have e1 : j - t % 8 = 0 := by omega
          have e2 : ¬ j < t % 8 := by omega
          have e3 : ¬ 8 * q + j < t := by omega
          have e4 : 8 * q + j < t + 1 := by omega
          simp only [hj, e1, e2, e3, e4, he, decide_true, decide_false, Bool.true_and, Bool.and_true, Bool.false_and, Bool.and_false, Bool.false_or, Bool.not_false]
          simp [Nat.lt_irrefl]
        · by_cases hl : 8 * q + j < t
          · have e2 : j < t % 8 := by omega
            have e4 : 8 * q + j < t + 1 := by omega
            simp only [hj, e2, hl, e4, decide_true, Bool.true_and, Bool.not_true, Bool.false_and, Bool.and_false, Bool.or_false]
          · have e1 : ¬ j - t % 8 = 0 := by omega
            have e4 : ¬ 8 * q + j < t + 1 := by omega
            simp only [hj, e1, hl, e4, decide_true, decide_false, Bool.true_and, Bool.false_and, Bool.and_false, Bool.or_false]
      · simp [hj]
    · rw [if_neg hq, ih]
      by_cases hj : j < 8
      · by_cases hl : 8 * q + j < t
        · have e4 : 8 * q + j < t + 1 := by omega
          simp only [hl, e4]
        · have e4 : ¬ 8 * q + j < t + 1 := by omega
          simp only [hl, e4]
      · simp [hj]
theorem bitsF_num (z : F5) (h : Bnd (2 ^ 51) z) (hv : val z < 2 ^ 255) (q : Nat) : (bitsF z 255 q).toNat = val z / 256 ^ q % 256 := by
  apply Nat.eq_of_testBit_eq
  intro j
  have hg := bitsF_get z h 255 (Nat.le_refl _) q j
  rw [BitVec.getLsbD] at hg
  rw [hg, show (256 : Nat) ^ q = 2 ^ (8 * q) by rw [Nat.pow_mul], show (256 : Nat) = 2 ^ 8 by decide, Nat.testBit_mod_two_pow, Nat.testBit_div_two_pow]
  by_cases hj : j < 8
  · by_cases hl : 8 * q + j < 255
    · simp only [hj, hl, decide_true, Bool.true_and]; congr 1; omega
    · have : (val z).testBit (j + 8 * q) = false := Nat.testBit_lt_two_pow (Nat.lt_of_lt_of_le hv (Nat.pow_le_pow_right (by decide) (by omega)))
      simp only [hj, hl, decide_true, decide_false, Bool.true_and, Bool.false_and, Bool.and_false]
      first | exact this.symm | (rw [Nat.add_comm] at this; exact this.symm)
  · simp only [hj, decide_false, Bool.false_and]
theorem numB_of (b : Nat → BitVec 8) {N : Nat} (h : ∀ q, (b q).toNat = N / 256 ^ q % 256) : ∀ n, numB b n = N % 256 ^ n
  | 0 => by simp [numB, Nat.mod_one]
  | n + 1 => by
    show numB b n + (b n).toNat * 256 ^ n = _
    rw [numB_of b h n, h n, Nat.pow_succ, Nat.mod_mul, Nat.mul_comm]
def bytesF (l : F5) : Nat → BitVec 8 := bitsF (canF l) 255
theorem bytes_num (l : F5) (h : Bnd (2 ^ 63) l) : numB (bytesF l) 32 = val l % p255 := by
  obtain ⟨hv, hb⟩ := canF_num l h
  have hlt : val l % p255 < p255 := Nat.mod_lt _ (by decide)
  have hp : p255 < 2 ^ 255 := by decide
  unfold bytesF
  rw [numB_of _ (bitsF_num (canF l) hb (by rw [hv]; omega)) 32, hv, Nat.mod_eq_of_lt (Nat.lt_of_lt_of_le hlt (by decide))]
theorem bits_congr {z z' : F5} (h : ∀ q, q < 5 → z q = z' q) : ∀ t, t ≤ 255 → bitsF z t = bitsF z' t
  | 0, _ => rfl
  | t + 1, ht => by
    simp only [bitsF, bitF]
    rw [bits_congr h t (by omega), h (t / 51) (by omega)]
theorem bytes_ok (l : F5) : field_Elem_Bytes l (bytesF l) := by
  refine ⟨_, car_ok l, _, car_ok _, qC (carF (carF l)) 5, ?_, mP (topF (carF (carF l))) 4, ?_, bytesF l, ?_, rfl⟩
  · refine Iter.count (fun i => (qC (carF (carF l)) (i + 1), i + 1)) 4 (fun i hi => ?_) ?_
    · unfold field_Elem_Bytes_l0; dsimp only
      rw [if_pos (by omega)]; rfl
    · unfold field_Elem_Bytes_l0; dsimp only
      rw [if_neg (by omega)]
  · have e := mP_zero (topF (carF (carF l)))
    have := Iter.count (step := field_Elem_Bytes_l1) (x := mP (topF (carF (carF l))) 4) (fun i => (i, mP (topF (carF (carF l))) i)) 4 (fun i hi => by
      unfold field_Elem_Bytes_l1; dsimp only
      rw [if_pos hi, mP_succ]) (by
      unfold field_Elem_Bytes_l1; dsimp only
      rw [if_neg (by omega)])
    rw [e] at this
    exact this
  · refine Iter.count (fun i => (i, bitsF (canF l) i)) 255 (fun i hi => ?_) ?_
    · unfold field_Elem_Bytes_l2; dsimp only
      rw [if_pos hi, mP_top _ (show i / 51 < 5 by omega)]
      rfl
    · unfold field_Elem_Bytes_l2; dsimp only
      rw [if_neg (by omega)]
      rfl
end Go.Proofs.YtjblfkmmbpcpaaaDoor

/-
  PLAIN (own work), FIELD PART 5: products of words; sums of two words.
-/
namespace Go.Proofs.YtjblfkmmbpcpaaaDoor
set_option linter.unusedSimpArgs false
set_option linter.unusedVariables false
set_option linter.unusedSectionVars false
open Go Go.LW

/-! ### one product -/
def mhi (x y : BitVec 64) : BitVec 64 :=
  ((((x >>> 32) * (y >>> 32)) + ((((x >>> 32) * (y &&& (4294967295#64))) + (((x &&& (4294967295#64)) * (y &&& (4294967295#64))) >>> 32)) >>> 32)) + ((((((x >>> 32) * (y &&& (4294967295#64))) + (((x &&& (4294967295#64)) * (y &&& (4294967295#64))) >>> 32)) &&& (4294967295#64)) + ((x &&& (4294967295#64)) * (y >>> 32))) >>> 32))
theorem mul64_ok (x y : BitVec 64) : bits_Mul64 x y (mhi x y, x * y) := rfl
theorem and32 (x : BitVec 64) : (x &&& 4294967295#64).toNat = x.toNat % 2 ^ 32 := by
  rw [BitVec.toNat_and, show (4294967295#64).toNat = 2 ^ 32 - 1 by decide, Nat.and_two_pow_sub_one_eq_mod]
theorem mulT {x y : BitVec 64} (h : x.toNat * y.toNat < 2 ^ 64) : (x * y).toNat = x.toNat * y.toNat := by rw [BitVec.toNat_mul, Nat.mod_eq_of_lt h]
theorem addT {x y : BitVec 64} (h : x.toNat + y.toNat < 2 ^ 64) : (x + y).toNat = x.toNat + y.toNat := by rw [BitVec.toNat_add, Nat.mod_eq_of_lt h]
theorem prod32 {a b : Nat} (ha : a < 2 ^ 32) (hb : b < 2 ^ 32) : a * b ≤ (2 ^ 32 - 1) * (2 ^ 32 - 1) := Nat.mul_le_mul (by omega) (by omega)
theorem mhi_num (x y : BitVec 64) : (mhi x y).toNat * 2 ^ 64 + (x * y).toNat = x.toNat * y.toNat := by
  have hx := x.isLt
  have hy := y.isLt
  have a1 : (x >>> 32).toNat = x.toNat / 2 ^ 32 := shr_toNat x 32
  have b1 : (y >>> 32).toNat = y.toNat / 2 ^ 32 := shr_toNat y 32
  have a0 := and32 x
  have b0 := and32 y
  have hxx : x.toNat = x.toNat / 2 ^ 32 * 2 ^ 32 + x.toNat % 2 ^ 32 := by omega
  have hyy : y.toNat = y.toNat / 2 ^ 32 * 2 ^ 32 + y.toNat % 2 ^ 32 := by omega
  have hA1 : x.toNat / 2 ^ 32 < 2 ^ 32 := by omega
  have hB1 : y.toNat / 2 ^ 32 < 2 ^ 32 := by omega
  have hA0 : x.toNat % 2 ^ 32 < 2 ^ 32 := by omega
  have hB0 : y.toNat % 2 ^ 32 < 2 ^ 32 := by omega
  have hprod : x.toNat * y.toNat = (x.toNat / 2 ^ 32 * (y.toNat / 2 ^ 32)) * 2 ^ 64 + (x.toNat / 2 ^ 32 * (y.toNat % 2 ^ 32)) * 2 ^ 32 + (x.toNat % 2 ^ 32 * (y.toNat / 2 ^ 32)) * 2 ^ 32 + x.toNat % 2 ^ 32 * (y.toNat % 2 ^ 32) := by
    conv => lhs; rw [hxx, hyy]
    generalize x.toNat / 2 ^ 32 = p
    generalize x.toNat % 2 ^ 32 = q
    generalize y.toNat / 2 ^ 32 = r
    generalize y.toNat % 2 ^ 32 = s
    rw [Nat.add_mul, Nat.mul_add, Nat.mul_add, show p * 2 ^ 32 * (r * 2 ^ 32) = p * r * 2 ^ 64 by rw [Nat.mul_mul_mul_comm], show p * 2 ^ 32 * s = p * s * 2 ^ 32 by rw [Nat.mul_right_comm], show q * (r * 2 ^ 32) = q * r * 2 ^ 32 by rw [Nat.mul_assoc]]
    omega
  have p11 := prod32 hA1 hB1
  have p10 := prod32 hA1 hB0
  have p01 := prod32 hA0 hB1
  have p00 := prod32 hA0 hB0
  have w0 : ((x &&& (4294967295#64)) * (y &&& (4294967295#64))).toNat = x.toNat % 2 ^ 32 * (y.toNat % 2 ^ 32) := by rw [mulT (by rw [a0, b0]; omega), a0, b0]
  have w10 : ((x >>> 32) * (y &&& (4294967295#64))).toNat = x.toNat / 2 ^ 32 * (y.toNat % 2 ^ 32) := by rw [mulT (by rw [a1, b0]; omega), a1, b0]
  have w01 : ((x &&& (4294967295#64)) * (y >>> 32)).toNat = x.toNat % 2 ^ 32 * (y.toNat / 2 ^ 32) := by rw [mulT (by rw [a0, b1]; omega), a0, b1]
  have w11 : ((x >>> 32) * (y >>> 32)).toNat = x.toNat / 2 ^ 32 * (y.toNat / 2 ^ 32) := by rw [mulT (by rw [a1, b1]; omega), a1, b1]
  have hlo : (x * y).toNat = (x.toNat * y.toNat) % 2 ^ 64 := BitVec.toNat_mul _ _
  rw [hlo]
  unfold mhi
  generalize (x >>> 32) * (y >>> 32) = v11 at *
  generalize (x >>> 32) * (y &&& (4294967295#64)) = v10 at *
  generalize (x &&& (4294967295#64)) * (y >>> 32) = v01 at *
  generalize (x &&& (4294967295#64)) * (y &&& (4294967295#64)) = v00 at *
  have t1 : (v10 + (v00 >>> 32)).toNat = v10.toNat + v00.toNat / 2 ^ 32 := by rw [addT (by rw [shr_toNat]; omega), shr_toNat]
  generalize v10 + (v00 >>> 32) = t at *
  have t2 : ((t &&& 4294967295#64) + v01).toNat = t.toNat % 2 ^ 32 + v01.toNat := by rw [addT (by rw [and32]; omega), and32]
  generalize (t &&& 4294967295#64) + v01 = u at *
  have t3 : (v11 + (t >>> 32)).toNat = v11.toNat + t.toNat / 2 ^ 32 := by rw [addT (by rw [shr_toNat]; omega), shr_toNat]
  generalize v11 + (t >>> 32) = s at *
  have t4 : (s + (u >>> 32)).toNat = s.toNat + u.toNat / 2 ^ 32 := by rw [addT (by rw [shr_toNat]; omega), shr_toNat]
  rw [t4, hprod]
  rw [← w11, ← w10, ← w01, ← w0]
  omega
end Go.Proofs.YtjblfkmmbpcpaaaDoor

/-
  PLAIN (own work), FIELD PART 6: the 25 products, summed; Mul.
-/
namespace Go.Proofs.YtjblfkmmbpcpaaaDoor
set_option linter.unusedSimpArgs false
set_option linter.unusedVariables false
set_option linter.unusedSectionVars false
open Go Go.LW
set_option maxRecDepth 10000

def cry (xlo l : BitVec 64) : BitVec 64 := BitVec.ofNat 64 ((xlo.toNat + l.toNat + (0#64).toNat) / 2 ^ 64)
def lpH (xhi xlo a b : BitVec 64) : BitVec 64 := xhi + mhi a b + cry xlo (a * b)
def lpL (xlo a b : BitVec 64) : BitVec 64 := xlo + a * b + 0#64
theorem plus_ok (xhi xlo a b : BitVec 64) : field_long_plus xhi xlo a b (lpH xhi xlo a b, lpL xlo a b) := by
  refine ⟨_, _, mul64_ok a b, ?_, rfl⟩
  have h1 := xlo.isLt
  have h2 := (a * b).isLt
  rw [BitVec.toNat_ofNat, show (0#64 : BitVec 64).toNat = 0 by decide]
  omega
theorem plus_lin (M A B C D P q r : Nat) (hm : C * M + D = P) (e : M * q + r = B + D) : (A + C + q) * M + r = A * M + B + P := by
  rw [Nat.add_mul, Nat.add_mul, ← hm]
  rw [Nat.mul_comm] at e
  generalize A * M = a
  generalize C * M = c
  generalize q * M = d at *
  omega
theorem plus_num {xhi xlo a b : BitVec 64} (h : xhi.toNat * 2 ^ 64 + xlo.toNat + a.toNat * b.toNat < 2 ^ 128) :
    (lpH xhi xlo a b).toNat * 2 ^ 64 + (lpL xlo a b).toNat = xhi.toNat * 2 ^ 64 + xlo.toNat + a.toNat * b.toNat := by
  have hm := mhi_num a b
  have h1 := xlo.isLt
  have h2 := (a * b).isLt
  unfold lpH lpL cry
  generalize a * b = l at *
  generalize mhi a b = hh at *
  have e0 : (0#64 : BitVec 64).toNat = 0 := BitVec.toNat_ofNat 0 64
  have h4 := hh.isLt
  have h3 := xhi.isLt
  have h5 : (xlo + l + 0#64).toNat = (xlo.toNat + l.toNat) % 2 ^ 64 := by rw [BitVec.add_zero, BitVec.toNat_add]
  have h6 : (BitVec.ofNat 64 ((xlo.toNat + l.toNat + (0#64 : BitVec 64).toNat) / 2 ^ 64)).toNat = (xlo.toNat + l.toNat) / 2 ^ 64 := by
    rw [BitVec.toNat_ofNat, e0, Nat.add_zero, Nat.mod_eq_of_lt]
    omega
  have h7 : (xhi + hh + BitVec.ofNat 64 ((xlo.toNat + l.toNat + (0#64 : BitVec 64).toNat) / 2 ^ 64)).toNat = xhi.toNat + hh.toNat + (xlo.toNat + l.toNat) / 2 ^ 64 := by
    have g1 : (xhi + hh).toNat = xhi.toNat + hh.toNat := addT (by omega)
    rw [addT (by rw [g1, h6]; omega), g1, h6]
  rw [h5, h7]
  exact plus_lin (2 ^ 64) _ _ _ _ _ _ _ hm (Nat.div_add_mod _ _)

/-! ### the sums -/
def SV (m : Nat → BitVec 64) (k : Nat) : Nat := (m (k * 2)).toNat * 2 ^ 64 + (m (k * 2 + 1)).toNat
def yv (b : F5) (i j : Nat) : BitVec 64 := if 5 ≤ i + j then b j * 19#64 else b j
def rowA (a b : F5) (i : Nat) (m : Nat → BitVec 64) : Nat → (Nat → BitVec 64)
  | 0 => m
  | j + 1 => spl (rowA a b i m j) (((i + j) % 5) * 2) 2 (lit [lpH (rowA a b i m j (((i + j) % 5) * 2 + 0)) (rowA a b i m j (((i + j) % 5) * 2 + 1)) (a i) (yv b i j), lpL (rowA a b i m j (((i + j) % 5) * 2 + 1)) (a i) (yv b i j)])
def accA (a b : F5) : Nat → (Nat → BitVec 64)
  | 0 => fun _ => 0#64
  | i + 1 => rowA a b i (accA a b i) 5
theorem acc_ok (a b : F5) : Iter (field_Elem_Mul_l0 a b) (0, fun _ => 0#64) (accA a b 5) := by
  refine Iter.count (fun i => (i, accA a b i)) 5 (fun i hi => ?_) ?_
  · unfold field_Elem_Mul_l0; dsimp only
    rw [if_pos hi]
    refine ⟨rowA a b i (accA a b i) 5, ?_, rfl⟩
    refine Iter.count (fun j => (j, rowA a b i (accA a b i) j)) 5 (fun j hj => ?_) ?_
    · unfold field_Elem_Mul_l1; dsimp only
      rw [if_pos hj]
      refine ⟨yv b i j, ?_, _, _, plus_ok _ _ _ _, rfl⟩
      unfold yv
      by_cases h : 5 ≤ i + j
      · rw [if_pos h, if_pos h]
      · rw [if_neg h, if_neg h]
    · unfold field_Elem_Mul_l1; dsimp only
      rw [if_neg (by omega)]
  · unfold field_Elem_Mul_l0; dsimp only
    rw [if_neg (by omega)]
theorem SV_spl (m : Nat → BitVec 64) (k0 : Nat) (h l : BitVec 64) (k : Nat) : SV (spl m (k0 * 2) 2 (lit [h, l])) k = if k = k0 then h.toNat * 2 ^ 64 + l.toNat else SV m k := by
  unfold SV
  by_cases hk : k = k0
  · subst hk
    rw [if_pos rfl, spl_in _ _ _ _ _ (by omega), spl_in _ _ _ _ _ (by omega), Nat.sub_self, show k * 2 + 1 - k * 2 = 1 by omega]
    rfl
  · rw [if_neg hk, spl_out _ _ _ _ _ (by omega), spl_out _ _ _ _ _ (by omega)]
def yN (b : F5) (i j : Nat) : Nat := if 5 ≤ i + j then (b j).toNat * 19 else (b j).toNat
theorem yv_num {b : F5} (h : Bnd (2 ^ 52) b) {i j : Nat} (hj : j < 5) : (yv b i j).toNat = yN b i j ∧ yN b i j < 19 * 2 ^ 52 := by
  have hb := h j hj
  unfold yv yN
  by_cases e : 5 ≤ i + j
  · rw [if_pos e, if_pos e, BitVec.toNat_mul, show (19#64 : BitVec 64).toNat = 19 by decide]; omega
  · rw [if_neg e, if_neg e]; omega
def rowN (a b : F5) (i : Nat) (f : Nat → Nat) : Nat → (Nat → Nat)
  | 0 => f
  | j + 1 => fun k => if k = (i + j) % 5 then rowN a b i f j k + (a i).toNat * yN b i j else rowN a b i f j k
def accN (a b : F5) : Nat → (Nat → Nat)
  | 0 => fun _ => 0
  | i + 1 => rowN a b i (accN a b i) 5
theorem row_num {a b : F5} (ha : Bnd (2 ^ 52) a) (hb : Bnd (2 ^ 52) b) {i : Nat} (hi : i < 5) {m : Nat → BitVec 64} {f : Nat → Nat} (hm : ∀ k, k < 5 → SV m k = f k) (hf : ∀ k, k < 5 → f k ≤ i * 5 * (2 ^ 52 * (19 * 2 ^ 52))) :
    ∀ j, j ≤ 5 → ∀ k, k < 5 → SV (rowA a b i m j) k = rowN a b i f j k ∧ rowN a b i f j k ≤ (i * 5 + j) * (2 ^ 52 * (19 * 2 ^ 52))
  | 0, _, k, hk => ⟨hm k hk, by have := hf k hk; simpa [rowN] using this⟩
  | j + 1, hj, k, hk => by
    obtain ⟨h1, h2⟩ := row_num ha hb hi hm hf j (by omega) k hk
    obtain ⟨y1, y2⟩ := yv_num hb (i := i) (j := j) (by omega)
    have hai := ha i hi
    have hp : (a i).toNat * yN b i j ≤ 2 ^ 52 * (19 * 2 ^ 52) := Nat.mul_le_mul (by omega) (by omega)
    have hij : (i * 5 + j) * (2 ^ 52 * (19 * 2 ^ 52)) ≤ 24 * (2 ^ 52 * (19 * 2 ^ 52)) := Nat.mul_le_mul_right _ (by omega)
    show SV (spl (rowA a b i m j) (((i + j) % 5) * 2) 2 (lit [_, _])) k = (if k = (i + j) % 5 then rowN a b i f j k + (a i).toNat * yN b i j else rowN a b i f j k) ∧ (if k = (i + j) % 5 then rowN a b i f j k + (a i).toNat * yN b i j else rowN a b i f j k) ≤ _
    rw [SV_spl]
    have hs : (i * 5 + (j + 1)) * (2 ^ 52 * (19 * 2 ^ 52)) = (i * 5 + j) * (2 ^ 52 * (19 * 2 ^ 52)) + 2 ^ 52 * (19 * 2 ^ 52) := by rw [← Nat.add_assoc, Nat.add_mul, Nat.one_mul]
    by_cases e : k = (i + j) % 5
    · rw [if_pos e, if_pos e, ← e, hs]
      have h1' : (rowA a b i m j (k * 2)).toNat * 2 ^ 64 + (rowA a b i m j (k * 2 + 1)).toNat = rowN a b i f j k := h1
      have := plus_num (xhi := rowA a b i m j (k * 2 + 0)) (xlo := rowA a b i m j (k * 2 + 1)) (a := a i) (b := yv b i j) (by
        rw [y1]; show (rowA a b i m j (k * 2)).toNat * 2 ^ 64 + (rowA a b i m j (k * 2 + 1)).toNat + _ < _; omega)
      rw [this, y1]
      refine ⟨by show (rowA a b i m j (k * 2)).toNat * 2 ^ 64 + (rowA a b i m j (k * 2 + 1)).toNat + _ = _; rw [h1'], by omega⟩
    · rw [if_neg e, if_neg e, hs]
      exact ⟨h1, Nat.le_trans h2 (Nat.le_add_right _ _)⟩
theorem acc_num {a b : F5} (ha : Bnd (2 ^ 52) a) (hb : Bnd (2 ^ 52) b) : ∀ i, i ≤ 5 → ∀ k, k < 5 → SV (accA a b i) k = accN a b i k ∧ accN a b i k ≤ i * 5 * (2 ^ 52 * (19 * 2 ^ 52))
  | 0, _, k, _ => ⟨by show (0#64 : BitVec 64).toNat * 2 ^ 64 + (0#64 : BitVec 64).toNat = 0; rw [BitVec.toNat_ofNat 0 64], by simp [accN]⟩
  | i + 1, hi, k, hk => by
    have ih := acc_num ha hb i (by omega)
    have := row_num ha hb (i := i) (by omega) (fun k hk => (ih k hk).1) (fun k hk => (ih k hk).2) 5 (by omega) k hk
    rw [show i * 5 + 5 = (i + 1) * 5 by omega] at this
    exact this
end Go.Proofs.YtjblfkmmbpcpaaaDoor

/-
  PLAIN (own work), FIELD PART 7: Mul as numbers.
-/
namespace Go.Proofs.YtjblfkmmbpcpaaaDoor
set_option linter.unusedSimpArgs false
set_option linter.unusedVariables false
set_option linter.unusedSectionVars false
open Go Go.LW
set_option maxRecDepth 10000

def cC (m : Nat → BitVec 64) : Nat → BitVec 64
  | 0 => 0#64
  | i + 1 => (((m (i * 2 + 0)) + (BitVec.ofNat 64 (((m (i * 2 + 1)).toNat + (cC m i).toNat + (0#64).toNat) / 2 ^ 64))) <<< 13) ||| (((m (i * 2 + 1)) + (cC m i) + (0#64)) >>> 51)
def outM (m : Nat → BitVec 64) (i : Nat) : F5 := fun q => if q < i then (((m (q * 2 + 1)) + (cC m q) + (0#64)) &&& (2251799813685247#64)) else 0#64
theorem outM_succ (m : Nat → BitVec 64) (i : Nat) : upd (outM m i) i (((m (i * 2 + 1)) + (cC m i) + (0#64)) &&& (2251799813685247#64)) = outM m (i + 1) := by
  funext q
  rw [upd_at]
  unfold outM
  by_cases h : q = i
  · subst h; rw [if_pos rfl, if_pos (by omega)]
  · rw [if_neg h]
    by_cases h2 : q < i
    · rw [if_pos h2, if_pos (by omega)]
    · rw [if_neg h2, if_neg (by omega)]
def preM (a b : F5) : F5 := upd (outM (accA a b 5) 5) 0 (outM (accA a b 5) 5 0 + 19#64 * cC (accA a b 5) 5)
def mulF (a b : F5) : F5 := carF (preM a b)
theorem outM_zero (m : Nat → BitVec 64) : outM m 0 = fun _ => 0#64 := by
  funext q; unfold outM; rw [if_neg (by omega)]
theorem mul_ok (a b : F5) : field_Elem_Mul a b (mulF a b) := by
  refine ⟨_, acc_ok a b, cC (accA a b 5) 5, outM (accA a b 5) 5, ?_, _, car_ok _, rfl⟩
  have h := Iter.count (step := field_Elem_Mul_l2 (accA a b 5)) (x := (cC (accA a b 5) 5, outM (accA a b 5) 5)) (fun i => (cC (accA a b 5) i, i, outM (accA a b 5) i)) 5 (fun i hi => by
    unfold field_Elem_Mul_l2; dsimp only
    rw [if_pos hi, outM_succ]; rfl) (by
    unfold field_Elem_Mul_l2; dsimp only
    rw [if_neg (by omega)])
  rw [outM_zero] at h
  exact h
theorem sq_ok (a : F5) : field_Elem_Square a (mulF a a) := ⟨_, mul_ok a a, rfl⟩

/-! ### one carry -/
theorem lt64 {y : Nat} (h : y < 2 ^ 51) : y * 2 ^ 13 < 2 ^ 64 := by omega
theorem cry_num {hi lo c : BitVec 64} (hS : hi.toNat * 2 ^ 64 + lo.toNat + c.toNat < 2 ^ 115) :
    (((hi + (BitVec.ofNat 64 ((lo.toNat + c.toNat + (0#64 : BitVec 64).toNat) / 2 ^ 64))) <<< 13) ||| ((lo + c + 0#64) >>> 51)).toNat = (hi.toNat * 2 ^ 64 + lo.toNat + c.toNat) / 2 ^ 51 ∧
    ((lo + c + 0#64) &&& 2251799813685247#64).toNat = (hi.toNat * 2 ^ 64 + lo.toNat + c.toNat) % 2 ^ 51 := by
  have e0 : (0#64 : BitVec 64).toNat = 0 := BitVec.toNat_ofNat 0 64
  have h1 := lo.isLt
  have h2 := c.isLt
  have h3 := hi.isLt
  have h5 : (lo + c + 0#64).toNat = (lo.toNat + c.toNat) % 2 ^ 64 := by rw [BitVec.add_zero, BitVec.toNat_add]
  have h6 : (BitVec.ofNat 64 ((lo.toNat + c.toNat + (0#64 : BitVec 64).toNat) / 2 ^ 64)).toNat = (lo.toNat + c.toNat) / 2 ^ 64 := by
    rw [BitVec.toNat_ofNat, e0, Nat.add_zero, Nat.mod_eq_of_lt]; omega
  have h7 : (hi + BitVec.ofNat 64 ((lo.toNat + c.toNat + (0#64 : BitVec 64).toNat) / 2 ^ 64)).toNat = hi.toNat + (lo.toNat + c.toNat) / 2 ^ 64 := by
    rw [addT (by rw [h6]; omega), h6]
  refine ⟨?_, ?_⟩
  · rw [BitVec.toNat_or, BitVec.toNat_shiftLeft, shr_toNat, h5, h7, Nat.shiftLeft_eq]
    have hh : hi.toNat + (lo.toNat + c.toNat) / 2 ^ 64 < 2 ^ 51 := by omega
    have hh2 : (hi.toNat + (lo.toNat + c.toNat) / 2 ^ 64) * 2 ^ 13 < 2 ^ 64 := by
      exact lt64 hh
    rw [Nat.mod_eq_of_lt hh2]
    have hr : (lo.toNat + c.toNat) % 2 ^ 64 / 2 ^ 51 < 2 ^ 13 := by omega
    rw [Nat.mul_comm, ← Nat.two_pow_add_eq_or_of_lt hr]
    omega
  · rw [mask_toNat, h5]; omega

/-! ### the sums in numbers -/
section sums
variable {a b : F5}
theorem acc0 : accN a b 5 0 = (a 0).toNat * (b 0).toNat + (a 1).toNat * ((b 4).toNat * 19) + (a 2).toNat * ((b 3).toNat * 19) + (a 3).toNat * ((b 2).toNat * 19) + (a 4).toNat * ((b 1).toNat * 19) := by simp [accN, rowN, yN]
theorem acc1 : accN a b 5 1 = (a 0).toNat * (b 1).toNat + (a 1).toNat * (b 0).toNat + (a 2).toNat * ((b 4).toNat * 19) + (a 3).toNat * ((b 3).toNat * 19) + (a 4).toNat * ((b 2).toNat * 19) := by simp [accN, rowN, yN]
theorem acc2 : accN a b 5 2 = (a 0).toNat * (b 2).toNat + (a 1).toNat * (b 1).toNat + (a 2).toNat * (b 0).toNat + (a 3).toNat * ((b 4).toNat * 19) + (a 4).toNat * ((b 3).toNat * 19) := by simp [accN, rowN, yN]
theorem acc3 : accN a b 5 3 = (a 0).toNat * (b 3).toNat + (a 1).toNat * (b 2).toNat + (a 2).toNat * (b 1).toNat + (a 3).toNat * (b 0).toNat + (a 4).toNat * ((b 4).toNat * 19) := by simp [accN, rowN, yN]
theorem acc4 : accN a b 5 4 = (a 0).toNat * (b 4).toNat + (a 1).toNat * (b 3).toNat + (a 2).toNat * (b 2).toNat + (a 3).toNat * (b 1).toNat + (a 4).toNat * (b 0).toNat := by simp [accN, rowN, yN]
end sums
theorem valprod (a0 a1 a2 a3 a4 b0 b1 b2 b3 b4 X : Nat) : (a0 + a1 * X + a2 * X^2 + a3 * X^3 + a4*X^4) * (b0 + b1 * X + b2 * X^2 + b3 * X^3 + b4*X^4) + 19 * ((a1*b4+a2*b3+a3*b2+a4*b1) + (a2*b4+a3*b3+a4*b2)*X + (a3*b4+a4*b3)*X^2+a4*b4*X^3) =
  (a0 * b0 + a1 * (b4 * 19) + a2 * (b3 * 19) + a3 * (b2 * 19) + a4 * (b1 * 19)) + (a0 * b1 + a1 * b0 + a2 * (b4 * 19) + a3 * (b3 * 19) + a4 * (b2 * 19)) * X + (a0 * b2 + a1 * b1 + a2 * b0 + a3 * (b4 * 19) + a4 * (b3 * 19)) * X^2 + (a0 * b3 + a1 * b2 + a2 * b1 + a3 * b0 + a4 * (b4 * 19)) * X^3 + (a0 * b4 + a1 * b3 + a2 * b2 + a3 * b1 + a4 * b0) * X^4
   + X^5 * ((a1*b4+a2*b3+a3*b2+a4*b1) + (a2*b4+a3*b3+a4*b2)*X + (a3*b4+a4*b3)*X^2+a4*b4*X^3) := by grind
theorem sum_mod (a b : F5) : (accN a b 5 0 + accN a b 5 1 * 2 ^ 51 + accN a b 5 2 * 2 ^ 102 + accN a b 5 3 * 2 ^ 153 + accN a b 5 4 * 2 ^ 204) % p255 = val a * val b % p255 := by
  have h := valprod (a 0).toNat (a 1).toNat (a 2).toNat (a 3).toNat (a 4).toNat (b 0).toNat (b 1).toNat (b 2).toNat (b 3).toNat (b 4).toNat (2 ^ 51)
  rw [← acc0, ← acc1, ← acc2, ← acc3, ← acc4] at h
  rw [show ((2 : Nat) ^ 51) ^ 2 = 2 ^ 102 by decide +kernel, show ((2 : Nat) ^ 51) ^ 3 = 2 ^ 153 by decide +kernel, show ((2 : Nat) ^ 51) ^ 4 = 2 ^ 204 by decide +kernel, show ((2 : Nat) ^ 51) ^ 5 = p255 + 19 by decide +kernel] at h
  have hv : val a * val b = ((a 0).toNat + (a 1).toNat * 2 ^ 51 + (a 2).toNat * 2 ^ 102 + (a 3).toNat * 2 ^ 153 + (a 4).toNat * 2 ^ 204) * ((b 0).toNat + (b 1).toNat * 2 ^ 51 + (b 2).toNat * 2 ^ 102 + (b 3).toNat * 2 ^ 153 + (b 4).toNat * 2 ^ 204) := rfl
  rw [← hv] at h
  generalize val a * val b = v at h ⊢
  generalize ((a 1).toNat * (b 4).toNat + (a 2).toNat * (b 3).toNat + (a 3).toNat * (b 2).toNat + (a 4).toNat * (b 1).toNat + ((a 2).toNat * (b 4).toNat + (a 3).toNat * (b 3).toNat + (a 4).toNat * (b 2).toNat) * 2 ^ 51 + ((a 3).toNat * (b 4).toNat + (a 4).toNat * (b 3).toNat) * 2 ^ 102 + (a 4).toNat * (b 4).toNat * 2 ^ 153) = H at h
  rw [Nat.add_mul] at h
  have h2 : v = accN a b 5 0 + accN a b 5 1 * 2 ^ 51 + accN a b 5 2 * 2 ^ 102 + accN a b 5 3 * 2 ^ 153 + accN a b 5 4 * 2 ^ 204 + p255 * H := by omega
  rw [h2, Nat.add_mul_mod_self_left]
def Tt : Nat := 2 ^ 51 + 2 ^ 17
theorem tt_le : Tt ≤ 2 ^ 52 := by decide
theorem Bnd.mono {M N : Nat} {l : F5} (h : Bnd M l) (hMN : M ≤ N) : Bnd N l := fun q hq => Nat.lt_of_lt_of_le (h q hq) hMN
theorem carF_bt (l : F5) (h : Bnd (2 ^ 63) l) : Bnd Tt (carF l) := fun q hq => by
  obtain ⟨c, _, hc, _, h0, hr⟩ := carF_num l h
  show _ < 2 ^ 51 + 2 ^ 17
  by_cases e : q = 0
  · subst e; rw [h0]; omega
  · have := hr q (by omega) hq; omega
theorem mul_num {a b : F5} (ha : Bnd (2 ^ 52) a) (hb : Bnd (2 ^ 52) b) : val (mulF a b) % p255 = val a * val b % p255 ∧ Bnd Tt (mulF a b) := by
  have hS := fun k hk => acc_num ha hb 5 (Nat.le_refl _) k hk
  have hs := sum_mod a b
  have b4 : accN a b 5 4 ≤ 5 * (2 ^ 52 * 2 ^ 52) := by
    rw [acc4]
    have q : ∀ i j, i < 5 → j < 5 → (a i).toNat * (b j).toNat ≤ 2 ^ 52 * 2 ^ 52 := fun i j hi hj => Nat.mul_le_mul (by have := ha i hi; omega) (by have := hb j hj; omega)
    have q0 := q 0 4 (by omega) (by omega)
    have q1 := q 1 3 (by omega) (by omega)
    have q2 := q 2 2 (by omega) (by omega)
    have q3 := q 3 1 (by omega) (by omega)
    have q4 := q 4 0 (by omega) (by omega)
    omega
  generalize accN a b 5 = S at hS hs b4
  have key : ∀ i, i < 5 → (cC (accA a b 5) (i + 1)).toNat = (S i + (cC (accA a b 5) i).toNat) / 2 ^ 51 ∧ (outM (accA a b 5) 5 i).toNat = (S i + (cC (accA a b 5) i).toNat) % 2 ^ 51 := fun i hi => by
    obtain ⟨h1, h2⟩ := hS i hi
    have hc := (cC (accA a b 5) i).isLt
    have h1' : (accA a b 5 (i * 2)).toNat * 2 ^ 64 + (accA a b 5 (i * 2 + 1)).toNat = S i := h1
    have := cry_num (hi := accA a b 5 (i * 2)) (lo := accA a b 5 (i * 2 + 1)) (c := cC (accA a b 5) i) (by omega)
    rw [h1'] at this
    refine ⟨this.1, ?_⟩
    unfold outM
    rw [if_pos hi]
    exact this.2
  have k0 := key 0 (by omega)
  have k1 := key 1 (by omega)
  have k2 := key 2 (by omega)
  have k3 := key 3 (by omega)
  have k4 := key 4 (by omega)
  have z : (cC (accA a b 5) 0).toNat = 0 := BitVec.toNat_ofNat 0 64
  have hS3 := (hS 3 (by omega)).2
  have hc4 := (cC (accA a b 5) 4).isLt
  have c5 : (cC (accA a b 5) 5).toNat < 2 ^ 58 := by rw [k4.1]; omega
  have e0 : (preM a b 0).toNat = (outM (accA a b 5) 5 0).toNat + 19 * (cC (accA a b 5) 5).toNat := by
    show (upd (outM (accA a b 5) 5) 0 (outM (accA a b 5) 5 0 + 19#64 * cC (accA a b 5) 5) 0).toNat = _
    have hm : (19#64 * cC (accA a b 5) 5).toNat = 19 * (cC (accA a b 5) 5).toNat := by
      rw [mulT (by rw [show (19#64 : BitVec 64).toNat = 19 by decide]; omega), show (19#64 : BitVec 64).toNat = 19 by decide]
    rw [upd_same, addT (by rw [hm, k0.2]; omega), hm]
  have eq : ∀ q, 0 < q → preM a b q = outM (accA a b 5) 5 q := fun q hq => upd_ne _ _ _ _ (by omega)
  have hbd : Bnd (2 ^ 63) (preM a b) := fun q hq => by
    by_cases e : q = 0
    · subst e; rw [e0, k0.2]; omega
    · rw [eq q (by omega), (key q hq).2]; omega
  have hval : val (preM a b) % p255 = val a * val b % p255 := by
    rw [← hs]
    have hP : p255 = 57896044618658097711785492504343953926634992332820282019728792003956564819949 := by decide
    have : val (preM a b) + p255 * (cC (accA a b 5) 5).toNat = S 0 + S 1 * 2 ^ 51 + S 2 * 2 ^ 102 + S 3 * 2 ^ 153 + S 4 * 2 ^ 204 := by
      unfold val
      rw [e0, eq 1 (by omega), eq 2 (by omega), eq 3 (by omega), eq 4 (by omega), k0.2, k1.2, k2.2, k3.2, k4.2, hP]
      rw [z] at k0
      rw [z]
      obtain ⟨j0, -⟩ := k0
      obtain ⟨j1, -⟩ := k1
      obtain ⟨j2, -⟩ := k2
      obtain ⟨j3, -⟩ := k3
      obtain ⟨j4, -⟩ := k4
      clear hs hS key eq hbd e0 b4 hS3 hc4 c5
      generalize (cC (accA a b 5) (0 + 1)).toNat = x1 at *
      generalize (cC (accA a b 5) (1 + 1)).toNat = x2 at *
      generalize (cC (accA a b 5) (2 + 1)).toNat = x3 at *
      generalize (cC (accA a b 5) (3 + 1)).toNat = x4 at *
      generalize (cC (accA a b 5) (4 + 1)).toNat = x5 at *
      generalize S 0 = s0 at *
      generalize S 1 = s1 at *
      generalize S 2 = s2 at *
      generalize S 3 = s3 at *
      generalize S 4 = s4 at *
      omega
    rw [← this, Nat.add_mul_mod_self_left]
  exact ⟨by rw [← hval]; exact carF_mod _ hbd, carF_bt _ hbd⟩
end Go.Proofs.YtjblfkmmbpcpaaaDoor

/-
  PLAIN (own work), NUMBERS: primes, Fermat's theorem, Pocklington's test; 2^255 - 19 is prime.
-/
namespace Go.Proofs.YtjblfkmmbpcpaaaDoor.Num
set_option linter.unusedSimpArgs false
set_option linter.unusedVariables false
set_option linter.unusedSectionVars false

def PrimeN (p : Nat) : Prop := 2 ≤ p ∧ ∀ d, d ∣ p → d = 1 ∨ d = p
theorem PrimeN.dvd {p a b : Nat} (hp : PrimeN p) (h : p ∣ a * b) : p ∣ a ∨ p ∣ b := by
  rcases hp.2 _ (Nat.gcd_dvd_left p a) with h1 | h1
  · exact .inr (Nat.Coprime.dvd_of_dvd_mul_left (show Nat.Coprime p a from h1) h)
  · exact .inl (by rw [← h1]; exact Nat.gcd_dvd_right p a)
theorem PrimeN.pow {p a : Nat} (hp : PrimeN p) : ∀ n, p ∣ a ^ n → p ∣ a
  | 0, h => by
    have := Nat.le_of_dvd (show 0 < 1 by decide) (by simpa using h)
    have := hp.1
    omega
  | n + 1, h => by
    rw [Nat.pow_succ] at h
    rcases hp.dvd h with h | h
    · exact hp.pow n h
    · exact h
/-- a prime that divides -/
theorem exists_prime : ∀ n, 2 ≤ n → ∃ r, PrimeN r ∧ r ∣ n := by
  intro n
  induction n using Nat.strongRecOn with
  | _ n ih =>
    intro h2
    by_cases h : ∃ d, d ∣ n ∧ d ≠ 1 ∧ d ≠ n
    · obtain ⟨d, hd, h1, hn⟩ := h
      have hle := Nat.le_of_dvd (by omega) hd
      have h0 : d ≠ 0 := fun e => by subst e; have := Nat.eq_zero_of_zero_dvd hd; omega
      obtain ⟨r, hr, hrd⟩ := ih d (by omega) (by omega)
      exact ⟨r, hr, Nat.dvd_trans hrd hd⟩
    · refine ⟨n, ⟨h2, fun d hd => ?_⟩, Nat.dvd_refl n⟩
      by_cases h1 : d = 1
      · exact .inl h1
      · by_cases hn : d = n
        · exact .inr hn
        · exact absurd ⟨d, hd, h1, hn⟩ h
/-- a number that isn't prime has a prime below its root -/
theorem small_prime {n : Nat} (h2 : 2 ≤ n) (hn : ¬ PrimeN n) : ∃ r, PrimeN r ∧ r ∣ n ∧ r * r ≤ n := by
  by_cases h : ∃ d, d ∣ n ∧ d ≠ 1 ∧ d ≠ n
  · obtain ⟨d, ⟨e, he⟩, h1, hne⟩ := h
    have key : ∀ a b : Nat, n = a * b → a ≠ 1 → a ≤ b → ∃ r, PrimeN r ∧ r ∣ n ∧ r * r ≤ n := by
      intro a b hab ha hle
      have ha0 : a ≠ 0 := fun e0 => by subst e0; omega
      obtain ⟨r, hr, hrd⟩ := exists_prime a (by omega)
      have hra := Nat.le_of_dvd (by omega) hrd
      refine ⟨r, hr, Nat.dvd_trans hrd ⟨b, hab⟩, ?_⟩
      rw [hab]
      exact Nat.mul_le_mul hra (Nat.le_trans hra hle)
    rcases Nat.le_total d e with hle | hle
    · exact key d e he h1 hle
    · refine key e d (by rw [he, Nat.mul_comm]) (fun e1 => ?_) hle
      subst e1; exact hne (by omega)
  · exact absurd ⟨h2, fun d hd => by
      by_cases h1 : d = 1
      · exact .inl h1
      · by_cases hn : d = n
        · exact .inr hn
        · exact absurd ⟨d, hd, h1, hn⟩ h⟩ hn

/-! ### Fermat -/
def ch : Nat → Nat → Nat
  | _, 0 => 1
  | 0, _ + 1 => 0
  | n + 1, k + 1 => ch n k + ch n (k + 1)
theorem ch_zero (n : Nat) : ch n 0 = 1 := by cases n <;> rfl
theorem ch_above : ∀ n k, n < k → ch n k = 0
  | 0, k + 1, _ => rfl
  | n + 1, k + 1, h => by
    show ch n k + ch n (k + 1) = 0
    rw [ch_above n k (by omega), ch_above n (k + 1) (by omega)]
theorem ch_self : ∀ n, ch n n = 1
  | 0 => rfl
  | n + 1 => by
    show ch n n + ch n (n + 1) = 1
    rw [ch_self n, ch_above n (n + 1) (by omega)]
theorem ch_absorb : ∀ n k, (k + 1) * ch (n + 1) (k + 1) = (n + 1) * ch n k
  | 0, k => by
    show (k + 1) * (ch 0 k + ch 0 (k + 1)) = 1 * ch 0 k
    cases k with
    | zero => rfl
    | succ k => show (k + 1 + 1) * (0 + 0) = 1 * 0; omega
  | n + 1, k => by
    have ih := ch_absorb n k
    show (k + 1) * (ch (n + 1) k + ch (n + 1) (k + 1)) = (n + 1 + 1) * ch (n + 1) k
    rw [Nat.mul_add, ih]
    cases k with
    | zero => rw [ch_zero, ch_zero]; omega
    | succ j =>
      have ih2 := ch_absorb n j
      have e : ch (n + 1) (j + 1) = ch n j + ch n (j + 1) := rfl
      rw [Nat.add_mul (j + 1) 1, ih2, Nat.one_mul, Nat.add_mul (n + 1) 1 (ch (n + 1) (j + 1)), Nat.one_mul]
      rw [e, Nat.mul_add]
      omega
def bsum (n a : Nat) : Nat → Nat
  | 0 => 0
  | m + 1 => bsum n a m + ch n m * a ^ m
theorem bsum_step (n a : Nat) : ∀ m, bsum (n + 1) a (m + 1) = bsum n a (m + 1) + a * bsum n a m
  | 0 => by simp [bsum, ch_zero]
  | m + 1 => by
    have ih := bsum_step n a m
    show bsum (n + 1) a (m + 1) + (ch n m + ch n (m + 1)) * a ^ (m + 1) = (bsum n a (m + 1) + ch n (m + 1) * a ^ (m + 1)) + a * (bsum n a m + ch n m * a ^ m)
    rw [ih, Nat.add_mul, Nat.mul_add, Nat.pow_succ]
    have : a * (ch n m * a ^ m) = ch n m * (a ^ m * a) := by rw [Nat.mul_comm (a ^ m) a, Nat.mul_left_comm]
    rw [this]
    omega
theorem bsum_pow (a : Nat) : ∀ n, bsum n a (n + 1) = (a + 1) ^ n
  | 0 => by simp [bsum, ch_zero]
  | n + 1 => by
    rw [bsum_step n a (n + 1), bsum_pow a n]
    have : bsum n a (n + 1 + 1) = bsum n a (n + 1) := by
      show bsum n a (n + 1) + ch n (n + 1) * a ^ (n + 1) = _
      rw [ch_above n (n + 1) (by omega), Nat.zero_mul, Nat.add_zero]
    rw [this, bsum_pow a n, Nat.pow_succ, Nat.mul_add, Nat.mul_one, Nat.mul_comm a]
    omega
theorem ch_prime {p : Nat} (hp : PrimeN p) {k : Nat} (h0 : 0 < k) (hk : k < p) : p ∣ ch p k := by
  obtain ⟨j, rfl⟩ : ∃ j, k = j + 1 := ⟨k - 1, by omega⟩
  obtain ⟨n, rfl⟩ : ∃ n, p = n + 1 := ⟨p - 1, by omega⟩
  have h := ch_absorb n j
  have h1 : n + 1 ∣ (j + 1) * ch (n + 1) (j + 1) := ⟨_, h⟩
  rcases hp.dvd h1 with h2 | h2
  · exact absurd (Nat.le_of_dvd (by omega) h2) (by omega)
  · exact h2
theorem fresh {p : Nat} (hp : PrimeN p) (a : Nat) : (a + 1) ^ p % p = (a ^ p + 1) % p := by
  have key : ∀ m, m < p → bsum p a (m + 1) % p = 1 % p := by
    intro m
    induction m with
    | zero => intro _; simp [bsum, ch_zero]
    | succ m ih =>
      intro hm
      show (bsum p a (m + 1) + ch p (m + 1) * a ^ (m + 1)) % p = 1 % p
      obtain ⟨c, hc⟩ := ch_prime hp (show 0 < m + 1 by omega) hm
      rw [hc, Nat.mul_assoc, Nat.add_mul_mod_self_left]
      exact ih (by omega)
  rw [← bsum_pow a p]
  obtain ⟨n, rfl⟩ : ∃ n, p = n + 1 := ⟨p - 1, by have := hp.1; omega⟩
  show (bsum (n + 1) a (n + 1) + ch (n + 1) (n + 1) * a ^ (n + 1)) % (n + 1) = _
  rw [ch_self, Nat.one_mul, Nat.add_mod, key n (by omega), ← Nat.add_mod, Nat.add_comm]
theorem fermat_pow {p : Nat} (hp : PrimeN p) : ∀ a, a ^ p % p = a % p
  | 0 => by rw [Nat.zero_pow (by have := hp.1; omega)]
  | a + 1 => by
    rw [fresh hp, Nat.add_mod, fermat_pow hp a, ← Nat.add_mod]
theorem dvd_of_mod_eq {p a b : Nat} (hab : b ≤ a) (h : a % p = b % p) : p ∣ a - b := by
  refine ⟨a / p - b / p, ?_⟩
  have h1 := Nat.div_add_mod a p
  have h2 := Nat.div_add_mod b p
  have h3 : b / p ≤ a / p := Nat.div_le_div_right hab
  rw [Nat.mul_sub]
  omega
theorem mod_eq_of_dvd {p a b : Nat} (hab : b ≤ a) (h : p ∣ a - b) : a % p = b % p := by
  obtain ⟨c, hc⟩ := h
  have : a = b + p * c := by omega
  rw [this, Nat.add_mul_mod_self_left]
theorem fermat {p : Nat} (hp : PrimeN p) {a : Nat} (ha : ¬ p ∣ a) : a ^ (p - 1) % p = 1 := by
  have h2 := hp.1
  have ha0 : 0 < a := Nat.pos_of_ne_zero fun e => ha (by rw [e]; exact Nat.dvd_zero p)
  have h1 : a ^ p = a * a ^ (p - 1) := by
    obtain ⟨n, hn⟩ : ∃ n, p = n + 1 := ⟨p - 1, by omega⟩
    rw [show a ^ p = a ^ (p - 1 + 1) by rw [show p - 1 + 1 = p by omega], Nat.pow_succ, Nat.mul_comm]
  have hpos : 1 ≤ a ^ (p - 1) := Nat.pow_pos ha0
  have h3 : p ∣ a ^ p - a := dvd_of_mod_eq (by rw [h1]; exact Nat.le_mul_of_pos_right a hpos) (fermat_pow hp a)
  have h4 : a ^ p - a = a * (a ^ (p - 1) - 1) := by rw [Nat.mul_sub, Nat.mul_one, h1]
  rw [h4] at h3
  rcases hp.dvd h3 with h | h
  · exact absurd h ha
  · rw [mod_eq_of_dvd hpos h, Nat.mod_eq_of_lt (by omega)]

/-! ### powers modulo -/
def pm (N : Nat) : Nat → Nat → Nat → Nat
  | 0, _, _ => 1
  | f + 1, b, e => cond (Nat.beq (e % 2) 0) (pm N f (b * b % N) (e / 2)) (b * pm N f (b * b % N) (e / 2) % N)
theorem pm_spec (N : Nat) : ∀ f b e, e < 2 ^ f → pm N f b e % N = b ^ e % N
  | 0, b, e, h => by
    obtain rfl : e = 0 := by simpa using h
    simp [pm]
  | f + 1, b, e, h => by
    have hlt : e / 2 < 2 ^ f := by rw [Nat.pow_succ] at h; omega
    have ih := pm_spec N f (b * b % N) (e / 2) hlt
    have hsq : (b * b % N) ^ (e / 2) % N = b ^ (2 * (e / 2)) % N := by
      rw [← Nat.pow_mod, Nat.pow_mul, Nat.pow_two]
    unfold pm
    cases hb : Nat.beq (e % 2) 0 with
    | true =>
      have h0 : e % 2 = 0 := Nat.eq_of_beq_eq_true hb
      show pm N f (b * b % N) (e / 2) % N = _
      rw [ih, hsq, show 2 * (e / 2) = e by omega]
    | false =>
      have h0 : e % 2 ≠ 0 := Nat.ne_of_beq_eq_false hb
      show b * pm N f (b * b % N) (e / 2) % N % N = _
      rw [Nat.mod_mod, Nat.mul_mod, ih, hsq, ← Nat.mul_mod, show b ^ e = b * b ^ (2 * (e / 2)) by
        conv => lhs; rw [show e = 2 * (e / 2) + 1 by omega]
        rw [Nat.pow_succ, Nat.mul_comm]]

/-! ### orders -/
theorem pow_one_mul {r a m : Nat} (h : a ^ m % r = 1 % r) (k : Nat) : a ^ (m * k) % r = 1 % r := by
  rw [Nat.pow_mul, Nat.pow_mod, h, ← Nat.pow_mod, Nat.one_pow]
theorem pow_gcd {r a : Nat} (m n : Nat) : a ^ m % r = 1 % r → a ^ n % r = 1 % r → a ^ Nat.gcd m n % r = 1 % r := by
  induction m, n using Nat.gcd.induction with
  | H0 n => intro _ h; rw [Nat.gcd_zero_left]; exact h
  | H1 m n hm ih =>
    intro h1 h2
    rw [Nat.gcd_rec]
    refine ih ?_ h1
    have h3 : a ^ n = a ^ (m * (n / m)) * a ^ (n % m) := by rw [← Nat.pow_add, Nat.div_add_mod]
    rw [h3, Nat.mul_mod, pow_one_mul h1, ← Nat.mul_mod, Nat.one_mul] at h2
    exact h2
theorem order_dvd {N r a q : Nat} (hr : PrimeN r) (hrN : r ∣ N) (hq : PrimeN q) (hqN : q ∣ N - 1) (h1 : a ^ (N - 1) % N = 1 % N) (h2 : Nat.gcd (a ^ ((N - 1) / q) % N + (N - 1)) N = 1) (hN : 2 ≤ N) : q ∣ r - 1 := by
  have hr2 := hr.1
  have h1r : a ^ (N - 1) % r = 1 % r := by
    have : a ^ (N - 1) % N % r = 1 % N % r := by rw [h1]
    rw [Nat.mod_mod_of_dvd _ hrN, Nat.mod_mod_of_dvd _ hrN] at this
    exact this
  obtain ⟨M, hM⟩ := hqN
  have hq0 : 0 < q := by have := hq.1; omega
  have hMe : (N - 1) / q = M := by rw [hM, Nat.mul_div_cancel_left _ hq0]
  rw [hMe] at h2
  have hra : ¬ r ∣ a := fun h => by
    have h0 : a ^ (N - 1) % r = 0 := Nat.mod_eq_zero_of_dvd (Nat.dvd_trans h (by obtain ⟨k, hk⟩ : ∃ k, N - 1 = k + 1 := ⟨N - 2, by omega⟩; rw [hk, Nat.pow_succ]; exact Nat.dvd_mul_left _ _))
    rw [h0, Nat.mod_eq_of_lt (by omega)] at h1r
    cases h1r
  rcases hq.2 _ (Nat.gcd_dvd_left q (r - 1)) with hg | hg
  · exfalso
    have h3 : a ^ (r - 1) % r = 1 % r := by rw [fermat hr hra, Nat.mod_eq_of_lt (by omega)]
    have h4 := pow_gcd (N - 1) (r - 1) h1r h3
    have h5 : Nat.Coprime (Nat.gcd (N - 1) (r - 1)) q := by
      have : Nat.gcd (Nat.gcd (N - 1) (r - 1)) q ∣ Nat.gcd q (r - 1) := Nat.dvd_gcd (Nat.gcd_dvd_right _ _) (Nat.dvd_trans (Nat.gcd_dvd_left _ _) (Nat.gcd_dvd_right _ _))
      rw [hg] at this
      exact Nat.eq_one_of_dvd_one this
    have h6 : Nat.gcd (N - 1) (r - 1) ∣ M := h5.dvd_of_dvd_mul_left (by rw [← hM]; exact Nat.gcd_dvd_left _ _)
    obtain ⟨k, hk⟩ := h6
    have h7 : a ^ M % r = 1 % r := by rw [hk]; exact pow_one_mul h4 k
    have h8 : r ∣ a ^ M % N + (N - 1) := by
      refine Nat.dvd_of_mod_eq_zero ?_
      have e1 : (a ^ M % N) % r = 1 % r := by rw [Nat.mod_mod_of_dvd _ hrN]; exact h7
      rw [Nat.add_mod, e1, ← Nat.add_mod, show 1 + (N - 1) = N by omega]
      exact Nat.mod_eq_zero_of_dvd hrN
    have h9 : r ∣ 1 := by rw [← h2]; exact Nat.dvd_gcd h8 hrN
    have := Nat.le_of_dvd (by decide) h9
    omega
  · rw [← hg]; exact Nat.gcd_dvd_right _ _
/-- Pocklington, one prime -/
theorem pock1 {N a q f : Nat} (hq : PrimeN q) (hqN : q ∣ N - 1) (hf : N - 1 < 2 ^ f) (h1 : pm N f a (N - 1) = 1) (h2 : Nat.gcd (pm N f a ((N - 1) / q) % N + (N - 1)) N = 1) (hN : 2 ≤ N) (hF : N < q * q) : PrimeN N := by
  refine Classical.byContradiction fun hc => ?_
  obtain ⟨r, hr, hrN, hrr⟩ := small_prime hN hc
  have e1 : a ^ (N - 1) % N = 1 % N := by rw [← pm_spec N f a (N - 1) hf, h1]
  have hlt : (N - 1) / q < 2 ^ f := Nat.lt_of_le_of_lt (Nat.div_le_self _ _) hf
  rw [pm_spec N f a ((N - 1) / q) hlt] at h2
  have hd := order_dvd hr hrN hq hqN e1 h2 hN
  have hr2 := hr.1
  have hle := Nat.le_of_dvd (by omega) hd
  have : q * q ≤ r * r := Nat.mul_le_mul (by omega) (by omega)
  omega
/-- .. two -/
theorem pock2 {N a q q' f : Nat} (hq : PrimeN q) (hq' : PrimeN q') (hne : q ≠ q') (hqN : q ∣ N - 1) (hqN' : q' ∣ N - 1) (hf : N - 1 < 2 ^ f) (h1 : pm N f a (N - 1) = 1) (h2 : Nat.gcd (pm N f a ((N - 1) / q) % N + (N - 1)) N = 1) (h2' : Nat.gcd (pm N f a ((N - 1) / q') % N + (N - 1)) N = 1)
    (hN : 2 ≤ N) (hF : N < (q * q') * (q * q')) : PrimeN N := by
  refine Classical.byContradiction fun hc => ?_
  obtain ⟨r, hr, hrN, hrr⟩ := small_prime hN hc
  have e1 : a ^ (N - 1) % N = 1 % N := by rw [← pm_spec N f a (N - 1) hf, h1]
  have hlt : ∀ q, (N - 1) / q < 2 ^ f := fun q => Nat.lt_of_le_of_lt (Nat.div_le_self _ _) hf
  rw [pm_spec N f a _ (hlt q)] at h2
  rw [pm_spec N f a _ (hlt q')] at h2'
  have hd := order_dvd hr hrN hq hqN e1 h2 hN
  have hd' := order_dvd hr hrN hq' hqN' e1 h2' hN
  have hr2 := hr.1
  have hco : Nat.Coprime q q' := by
    rcases hq.2 _ (Nat.gcd_dvd_left q q') with h | h
    · exact h
    · rcases hq'.2 _ (Nat.gcd_dvd_right q q') with h' | h'
      · exact h'
      · exact absurd (h.symm.trans h') hne
  have hle := Nat.le_of_dvd (by omega) (hco.mul_dvd_of_dvd_of_dvd hd hd')
  have : (q * q') * (q * q') ≤ r * r := Nat.mul_le_mul (by omega) (by omega)
  omega
/-- trial division -/
def trial (n : Nat) : Nat → Bool
  | 0 => true
  | m + 1 => cond (Nat.ble 2 (m + 1)) (cond (Nat.beq (n % (m + 1)) 0) false (trial n m)) true
theorem trial_spec (n : Nat) : ∀ m, trial n m = true → ∀ d, 2 ≤ d → d ≤ m → ¬ d ∣ n
  | 0, _, d, h2, hm => by omega
  | m + 1, h, d, h2, hm => by
    have hb : Nat.ble 2 (m + 1) = true := Nat.ble_eq_true_of_le (by omega)
    unfold trial at h
    rw [hb, cond_true] at h
    cases hz : Nat.beq (n % (m + 1)) 0 with
    | true => rw [hz] at h; cases h
    | false =>
      rw [hz, cond_false] at h
      by_cases he : d = m + 1
      · subst he
        intro hd
        exact Nat.ne_of_beq_eq_false hz (Nat.mod_eq_zero_of_dvd hd)
      · exact trial_spec n m h d h2 (by omega)
theorem trial_prime {n m : Nat} (h2 : 2 ≤ n) (hm : n < (m + 1) * (m + 1)) (h : trial n m = true) : PrimeN n := by
  refine Classical.byContradiction fun hc => ?_
  obtain ⟨r, hr, hrN, hrr⟩ := small_prime h2 hc
  have : r ≤ m := Nat.le_of_not_lt fun hlt => by
    have : (m + 1) * (m + 1) ≤ r * r := Nat.mul_le_mul hlt hlt
    omega
  exact trial_spec n m h r hr.1 this hrN

/-! ### the chain -/
theorem p430751 : PrimeN 430751 := trial_prime (m := 657) (by decide) (by decide) (by decide +kernel)
theorem p4153 : PrimeN 4153 := trial_prime (m := 65) (by decide) (by decide) (by decide +kernel)
theorem p127 : PrimeN 127 := trial_prime (m := 12) (by decide) (by decide) (by decide +kernel)
theorem p991 : PrimeN 991 := trial_prime (m := 32) (by decide) (by decide) (by decide +kernel)
theorem p103 : PrimeN 103 := trial_prime (m := 11) (by decide) (by decide) (by decide +kernel)
theorem p569003 : PrimeN 569003 := trial_prime (m := 755) (by decide) (by decide) (by decide +kernel)
theorem p8574133 : PrimeN 8574133 := pock2 (a := 2) (f := 24) p991 p103 (by decide) (by decide +kernel) (by decide +kernel) (by decide +kernel) (by decide +kernel) (by decide +kernel) (by decide +kernel) (by decide +kernel) (by decide +kernel)
theorem p31757755568855353 : PrimeN 31757755568855353 := pock2 (a := 2) (f := 56) p430751 p4153 (by decide) (by decide +kernel) (by decide +kernel) (by decide +kernel) (by decide +kernel) (by decide +kernel) (by decide +kernel) (by decide +kernel) (by decide +kernel)
theorem p1919519569386763 : PrimeN 1919519569386763 := pock2 (a := 2) (f := 56) p8574133 p127 (by decide) (by decide +kernel) (by decide +kernel) (by decide +kernel) (by decide +kernel) (by decide +kernel) (by decide +kernel) (by decide +kernel) (by decide +kernel)
theorem p2773320623 : PrimeN 2773320623 := pock1 (a := 2) (f := 40) p569003 (by decide +kernel) (by decide +kernel) (by decide +kernel) (by decide +kernel) (by decide +kernel) (by decide +kernel)
theorem p72106336199 : PrimeN 72106336199 := pock1 (a := 2) (f := 40) p2773320623 (by decide +kernel) (by decide +kernel) (by decide +kernel) (by decide +kernel) (by decide +kernel) (by decide +kernel)
theorem p116 : PrimeN 75445702479781427272750846543864801 := pock2 (a := 2) (f := 120) p1919519569386763 p72106336199 (by decide) (by decide +kernel) (by decide +kernel) (by decide +kernel) (by decide +kernel) (by decide +kernel) (by decide +kernel) (by decide +kernel) (by decide +kernel)
theorem p236 : PrimeN 74058212732561358302231226437062788676166966415465897661863160754340907 := pock2 (a := 2) (f := 240) p116 p31757755568855353 (by decide +kernel) (by decide +kernel) (by decide +kernel) (by decide +kernel) (by decide +kernel) (by decide +kernel) (by decide +kernel) (by decide +kernel) (by decide +kernel)
theorem prime255 : PrimeN (2 ^ 255 - 19) := pock1 (a := 2) (f := 255) p236 (by decide +kernel) (by decide +kernel) (by decide +kernel) (by decide +kernel) (by decide +kernel) (by decide +kernel)
end Go.Proofs.YtjblfkmmbpcpaaaDoor.Num

/-
  PLAIN (own work), FIELD PART 8: elements as numbers modulo p; powers; equality.
-/
namespace Go.Proofs.YtjblfkmmbpcpaaaDoor
set_option linter.unusedSimpArgs false
set_option linter.unusedVariables false
set_option linter.unusedSectionVars false
open Go Go.LW
set_option maxRecDepth 10000

instance : NeZero p255 := ⟨by decide⟩
abbrev Fp := Fin p255
theorem p_lt' : p255 < 2 ^ 255 := by decide
def ofN (n : Nat) : Fp := Fin.ofNat p255 n
theorem ofN_val (n : Nat) : (ofN n).val = n % p255 := rfl
theorem ofN_eq {m n : Nat} : ofN m = ofN n ↔ m % p255 = n % p255 := by
  constructor
  · intro h; exact congrArg Fin.val h
  · intro h; exact Fin.ext h
theorem ofN_mul (m n : Nat) : ofN (m * n) = ofN m * ofN n := by
  apply Fin.ext
  rw [Fin.val_mul, ofN_val, ofN_val, ofN_val, ← Nat.mul_mod]
theorem ofN_add (m n : Nat) : ofN (m + n) = ofN m + ofN n := by
  apply Fin.ext
  rw [Fin.val_add, ofN_val, ofN_val, ofN_val, ← Nat.add_mod]
theorem ofN_one : ofN 1 = 1 := rfl
theorem ofN_zero : ofN 0 = 0 := rfl
theorem ofN_mod {m n : Nat} (h : m % p255 = n % p255) : ofN m = ofN n := ofN_eq.2 h
theorem ofN_self (x : Fp) : ofN x.val = x := Fin.ext (Nat.mod_eq_of_lt x.isLt)
theorem ofN_pow (m : Nat) : ∀ n, ofN (m ^ n) = ofN m ^ n
  | 0 => by rw [Nat.pow_zero, ofN_one]; exact (by grind : (1 : Fp) = ofN m ^ 0)
  | n + 1 => by rw [Nat.pow_succ, ofN_mul, ofN_pow m n]; grind
theorem ofN_p : ofN p255 = 0 := Fin.ext (Nat.mod_self p255)
theorem ofN_inj {m n : Nat} (hm : m < p255) (hn : n < p255) (h : ofN m = ofN n) : m = n := by
  have := ofN_eq.1 h
  rwa [Nat.mod_eq_of_lt hm, Nat.mod_eq_of_lt hn] at this

/-- limbs that stand for a number -/
def Rp (l : F5) (x : Fp) : Prop := Bnd Tt l ∧ ofN (val l) = x
theorem Rp.b63 {l : F5} {x : Fp} (h : Rp l x) : Bnd (2 ^ 63) l := fun q hq => Nat.lt_of_lt_of_le (h.1 q hq) (by decide)
def ofB (b : Nat → BitVec 8) : Fp := ofN (numB b 32 % 2 ^ 255)
theorem rp_read (b : Nat → BitVec 8) : Rp (readF b) (ofB b) := ⟨fun q hq => Nat.lt_of_lt_of_le (readF_bnd b q hq) (by decide), by rw [readF_val]; rfl⟩
theorem rp_mul {a b : F5} {x y : Fp} (ha : Rp a x) (hb : Rp b y) : Rp (mulF a b) (x * y) := by
  obtain ⟨h1, h2⟩ := mul_num (ha.1.mono tt_le) (hb.1.mono tt_le)
  refine ⟨h2, ?_⟩
  rw [ofN_mod h1, ofN_mul, ha.2, hb.2]
def smallF (n : BitVec 32) : F5 := upd (fun _ => 0#64) 0 (n.setWidth 64)
theorem small_ok (n : BitVec 32) : field_Small n (smallF n) := rfl
theorem small_at (n : BitVec 32) (q : Nat) : (smallF n q).toNat = if q = 0 then n.toNat else 0 := by
  unfold smallF
  rw [upd_at]
  by_cases h : q = 0
  · rw [if_pos h, if_pos h, BitVec.toNat_setWidth, Nat.mod_eq_of_lt (by have := n.isLt; omega)]
  · rw [if_neg h, if_neg h]; exact BitVec.toNat_ofNat 0 64
theorem rp_small (n : BitVec 32) : Rp (smallF n) (ofN n.toNat) := by
  have h := n.isLt
  refine ⟨fun q _ => ?_, ?_⟩
  · rw [small_at]; unfold Tt; split <;> omega
  · unfold val
    rw [small_at, small_at, small_at, small_at, small_at]
    simp
def zF : F5 := fun _ => 0#64
theorem rp_zero : Rp (fun _ => 0#64) 0 := by
  have e0 : (0#64 : BitVec 64).toNat = 0 := BitVec.toNat_ofNat 0 64
  refine ⟨fun q _ => by show (0#64 : BitVec 64).toNat < _; rw [e0]; decide, ?_⟩
  unfold val
  rw [e0]
  rfl
theorem rp_one : Rp (smallF 1#32) 1 := rp_small 1#32
theorem numB_congr' {b b' : Nat → BitVec 8} : ∀ n, (∀ q, q < n → b q = b' q) → numB b n = numB b' n
  | 0, _ => rfl
  | n + 1, h => by simp only [numB]; rw [numB_congr' n fun q hq => h q (by omega), h n (by omega)]
theorem byte_num (b : Nat → BitVec 8) {q : Nat} (hq : q < 32) : (b q).toNat = numB b 32 / 256 ^ q % 256 := by
  have h1 := numB_div b q (32 - q)
  rw [show q + (32 - q) = 32 by omega] at h1
  have h2 := numB_mod (fun j => b (q + j)) 1 (31 - q)
  rw [show 1 + (31 - q) = 32 - q by omega] at h2
  rw [h1, show (256 : Nat) = 256 ^ 1 by decide, h2]
  simp [numB]
theorem eqB_iffN {b b' : Nat → BitVec 8} : eqB 32 b b' = true ↔ numB b 32 = numB b' 32 := by
  constructor
  · intro h; exact numB_congr' 32 (eqB_iff.1 h)
  · intro h
    refine eqB_iff.2 fun q hq => ?_
    apply BitVec.eq_of_toNat_eq
    rw [byte_num b hq, byte_num b' hq, h]
theorem rp_bytes {a : F5} {x : Fp} (h : Rp a x) : numB (bytesF a) 32 = x.val := by
  rw [bytes_num a h.b63, ← h.2]; rfl
theorem rp_eq {a b : F5} {x y : Fp} (ha : Rp a x) (hb : Rp b y) : eqB 32 (bytesF a) (bytesF b) = decide (x = y) := by
  rw [Bool.eq_iff_iff, eqB_iffN, rp_bytes ha, rp_bytes hb, decide_eq_true_iff]
  exact ⟨fun h => Fin.ext h, fun h => congrArg Fin.val h⟩

/-! ### powers -/
def bitN (n : Nat → BitVec 8) (t : Nat) : Prop := ((n (t / 8)) >>> (t % 8)) &&& 1#8 = 1#8
instance (n : Nat → BitVec 8) (t : Nat) : Decidable (bitN n t) := inferInstanceAs (Decidable (_ = _))
def powF (a : F5) (n : Nat → BitVec 8) : Nat → F5
  | 0 => smallF 1#32
  | i + 1 => if bitN n (255 - i) then mulF (mulF (powF a n i) (powF a n i)) a else mulF (powF a n i) (powF a n i)
theorem bitN_iff (n : Nat → BitVec 8) {t : Nat} (ht : t < 256) : bitN n t ↔ numB n 32 / 2 ^ t % 2 = 1 := by
  have h := byte_num n (q := t / 8) (by omega)
  have h1 : (((n (t / 8)) >>> (t % 8)) &&& 1#8).toNat = (n (t / 8)).toNat / 2 ^ (t % 8) % 2 := by
    rw [BitVec.toNat_and, BitVec.toNat_ushiftRight, Nat.shiftRight_eq_div_pow, show (1#8 : BitVec 8).toNat = 2 ^ 1 - 1 by decide, Nat.and_two_pow_sub_one_eq_mod]
  have h2 : (n (t / 8)).toNat / 2 ^ (t % 8) % 2 = numB n 32 / 2 ^ t % 2 := by
    rw [h]
    have e1 : ∀ M s, s < 8 → M % 256 / 2 ^ s % 2 = M / 2 ^ s % 2 := fun M s hs => by
      rcases (by omega : s = 0 ∨ s = 1 ∨ s = 2 ∨ s = 3 ∨ s = 4 ∨ s = 5 ∨ s = 6 ∨ s = 7) with rfl | rfl | rfl | rfl | rfl | rfl | rfl | rfl <;> omega
    rw [e1 _ _ (Nat.mod_lt _ (by decide)), Nat.div_div_eq_div_mul, show (256 : Nat) = 2 ^ 8 by decide, ← Nat.pow_mul, ← Nat.pow_add, Nat.div_add_mod]
  unfold bitN
  constructor
  · intro h3; rw [← h2, ← h1, h3]; rfl
  · intro h3
    apply BitVec.eq_of_toNat_eq
    rw [h1, h2, h3]; rfl
theorem pow_ok (a : F5) (n : Nat → BitVec 8) : field_Elem_Pow a n (powF a n 256) := by
  refine ⟨_, small_ok _, powF a n 256, ?_, rfl⟩
  have h := Iter.count (step := field_Elem_Pow_l0 a n) (x := powF a n 256) (fun i => ((255 : Int) - (i : Int), powF a n i)) 256 (fun i hi => by
    obtain ⟨k, hk, hk2⟩ : ∃ k : Nat, (255 : Int) - (i : Int) = (k : Int) ∧ k = 255 - i := ⟨255 - i, by omega, rfl⟩
    have d1 : ((k : Int).tdiv 8) = ((k / 8 : Nat) : Int) := by rw [Int.tdiv_eq_ediv_of_nonneg (by omega)]; omega
    have d2 : ((k : Int).tmod 8) = ((k % 8 : Nat) : Int) := by rw [Int.tmod_eq_emod_of_nonneg (by omega)]; omega
    have hk8 : k / 8 < 32 := by omega
    unfold field_Elem_Pow_l0; dsimp only
    rw [hk, d1, d2, if_pos (by omega)]
    refine ⟨_, sq_ok _, by omega, by omega, by omega, ?_⟩
    rw [Int.toNat_natCast, Int.toNat_natCast]
    have e : (255 : Int) - ((i + 1 : Nat) : Int) = (k : Int) - 1 := by omega
    rw [e]
    by_cases hb : bitN n k
    · rw [if_pos (show ((n (k / 8)) >>> (k % 8)) &&& 1#8 = 1#8 from hb)]
      refine ⟨_, mul_ok _ _, by omega, ?_⟩
      have e4 : powF a n (i + 1) = mulF (mulF (powF a n i) (powF a n i)) a := by
        show (if bitN n (255 - i) then _ else _) = _
        rw [← hk2, if_pos hb]
      rw [e4]
    · rw [if_neg (show ¬ ((n (k / 8)) >>> (k % 8)) &&& 1#8 = 1#8 from hb)]
      refine ⟨by omega, ?_⟩
      have e4 : powF a n (i + 1) = mulF (powF a n i) (powF a n i) := by
        show (if bitN n (255 - i) then _ else _) = _
        rw [← hk2, if_neg hb]
      rw [e4]) (by
    unfold field_Elem_Pow_l0; dsimp only
    rw [if_neg (by omega)])
  exact h
theorem fpow_add (x : Fp) (m n : Nat) : x ^ (m + n) = x ^ m * x ^ n := by grind
theorem fpow_mul (x : Fp) (m : Nat) : ∀ n, x ^ (m * n) = (x ^ m) ^ n
  | 0 => by rw [Nat.mul_zero]; grind
  | n + 1 => by rw [Nat.mul_succ, fpow_add, fpow_mul x m n]; grind
theorem fmul_pow (x y : Fp) : ∀ n : Nat, (x * y) ^ n = x ^ n * y ^ n
  | 0 => by grind
  | n + 1 => by
    have := fmul_pow x y n
    have e1 : (x * y) ^ (n + 1) = (x * y) ^ n * (x * y) := by grind
    rw [e1, this]; grind
theorem fpow_zero (x : Fp) : x ^ 0 = 1 := by grind
theorem rp_pow {a : F5} {x : Fp} (ha : Rp a x) (n : Nat → BitVec 8) : ∀ i, i ≤ 256 → Rp (powF a n i) (x ^ (numB n 32 / 2 ^ (256 - i)))
  | 0, _ => by
    have h := numB_lt n 32
    rw [Nat.div_eq_of_lt (by rw [show (2 : Nat) ^ (256 - 0) = 256 ^ 32 by decide +kernel]; exact h), fpow_zero]
    exact rp_one
  | i + 1, hi => by
    have ih := rp_pow ha n i (by omega)
    have hb := bitN_iff n (t := 255 - i) (by omega)
    have e : 256 - (i + 1) = 255 - i := by omega
    have e2 : 256 - i = (255 - i) + 1 := by omega
    have hd : numB n 32 / 2 ^ (256 - i) = numB n 32 / 2 ^ (255 - i) / 2 := by rw [e2, Nat.pow_succ, Nat.div_div_eq_div_mul]
    rw [hd] at ih
    rw [e]
    generalize numB n 32 / 2 ^ (255 - i) = M at ih hb ⊢
    show Rp (if bitN n (255 - i) then _ else _) _
    by_cases h : bitN n (255 - i)
    · rw [if_pos h]
      have h1 := hb.1 h
      have := rp_mul (rp_mul ih ih) ha
      have e3 : x ^ (M / 2) * x ^ (M / 2) * x = x ^ M := by
        rw [← fpow_add, show M = (M / 2 + M / 2) + 1 by omega, fpow_add x _ 1, show (M / 2 + M / 2 + 1) / 2 = M / 2 by omega]
        grind
      rw [e3] at this
      exact this
    · rw [if_neg h]
      have h1 : M % 2 = 0 := by
        have : ¬ M % 2 = 1 := fun h2 => h (hb.2 h2)
        omega
      have := rp_mul ih ih
      rw [← fpow_add, show M / 2 + M / 2 = M by omega] at this
      exact this
theorem pow_rp {a : F5} {x : Fp} (ha : Rp a x) (n : Nat → BitVec 8) : ∃ r, field_Elem_Pow a n r ∧ Rp r (x ^ numB n 32) := by
  refine ⟨_, pow_ok a n, ?_⟩
  have := rp_pow ha n 256 (Nat.le_refl _)
  rw [show 256 - 256 = 0 by omega, Nat.pow_zero, Nat.div_one] at this
  exact this
theorem mul_rp {a b : F5} {x y : Fp} (ha : Rp a x) (hb : Rp b y) : ∃ r, field_Elem_Mul a b r ∧ Rp r (x * y) := ⟨_, mul_ok a b, rp_mul ha hb⟩

/-! ### inverses; Fermat -/
theorem prime255 : Num.PrimeN p255 := Num.prime255
theorem f_fermat {x : Fp} (h : x ≠ 0) : x ^ (p255 - 1) = 1 := by
  have h1 : ¬ p255 ∣ x.val := fun hd => h (Fin.ext (by
    have := x.isLt
    rcases Nat.eq_zero_or_pos x.val with h0 | h0
    · exact h0
    · exact absurd (Nat.le_of_dvd h0 hd) (by omega)))
  have h2 := Num.fermat prime255 h1
  have h3 : ofN (x.val ^ (p255 - 1)) = ofN 1 := ofN_eq.2 (by rw [h2, Nat.mod_eq_of_lt (by decide)])
  rw [ofN_pow, ofN_self, ofN_one] at h3
  exact h3
theorem f_dom {x y : Fp} (h : x * y = 0) : x = 0 ∨ y = 0 := by
  by_cases hx : x = 0
  · exact .inl hx
  · refine .inr ?_
    have h1 := f_fermat hx
    have h2 : x ^ (p255 - 1) = x * x ^ (p255 - 2) := by
      rw [show p255 - 1 = (p255 - 2) + 1 by decide, fpow_add]
      grind
    rw [h2] at h1
    grind
theorem one_ne : (1 : Fp) ≠ 0 := by
  intro h
  have := congrArg Fin.val h
  exact absurd this (by decide +kernel)
end Go.Proofs.YtjblfkmmbpcpaaaDoor

/-
  PLAIN (own work), FIELD PART 9: exponents; inverses.
-/
namespace Go.Proofs.YtjblfkmmbpcpaaaDoor
set_option linter.unusedSimpArgs false
set_option linter.unusedVariables false
set_option linter.unusedSectionVars false
open Go Go.LW
set_option maxRecDepth 10000

theorem numB_single (n : BitVec 8) : numB (upd (fun _ => 0#8) 0 n) 32 = n.toNat := by
  have h1 := numB_split (upd (fun _ => 0#8) 0 n) 1 31
  have h2 : numB (fun q => upd (fun _ => 0#8) 0 n (1 + q)) 31 = numB (fun _ => 0#8) 31 := numB_congr' 31 fun q hq => upd_ne _ _ _ _ (by omega)
  have h3 : numB (fun _ => 0#8) 31 = 0 := by decide +kernel
  rw [show 1 + 31 = 32 by decide, h2, h3] at h1
  rw [h1]; simp [numB, upd_same]
theorem numB_zero : numB (fun _ => 0#8) 32 = 0 := by decide +kernel
def allF (i : Nat) : Nat → BitVec 8 := fun q => if q < i then 255#8 else 0#8
def expF (a b : BitVec 8) : Nat → BitVec 8 := upd (upd (allF 32) 0 a) 31 b
theorem exp_ok (a b : BitVec 8) : field_exponent a b (expF a b) := by
  refine ⟨allF 32, ?_, rfl⟩
  have e : (fun _ => 0#8) = allF 0 := by funext q; unfold allF; rw [if_neg (by omega)]
  rw [e]
  refine Iter.count (fun i => (i, allF i)) 32 (fun i hi => ?_) ?_
  · unfold field_exponent_l0; dsimp only
    rw [if_pos hi]
    have : upd (allF i) i 255#8 = allF (i + 1) := by
      funext q
      rw [upd_at]
      unfold allF
      by_cases h : q = i
      · rw [if_pos h, if_pos (by omega)]
      · rw [if_neg h]
        by_cases h2 : q < i
        · rw [if_pos h2, if_pos (by omega)]
        · rw [if_neg h2, if_neg (by omega)]
    rw [this]
  · unfold field_exponent_l0; dsimp only
    rw [if_neg (by omega)]
theorem exp_inv : numB (expF 235#8 127#8) 32 = p255 - 2 := by decide +kernel
def invN (x : Fp) : Fp := x ^ (p255 - 2)
theorem inv_rp {a : F5} {x : Fp} (ha : Rp a x) : ∃ r, field_Elem_Inv a r ∧ Rp r (invN x) := by
  obtain ⟨r, h1, h2⟩ := pow_rp ha (expF 235#8 127#8)
  rw [exp_inv] at h2
  exact ⟨r, ⟨_, exp_ok _ _, _, h1, rfl⟩, h2⟩
theorem inv_mul {x : Fp} (h : x ≠ 0) : x * invN x = 1 := by
  have h1 := f_fermat h
  rw [show p255 - 1 = (p255 - 2) + 1 by decide, fpow_add] at h1
  unfold invN
  grind
theorem zero_pow {n : Nat} (h : 0 < n) : (0 : Fp) ^ n = 0 := by
  obtain ⟨m, rfl⟩ : ∃ m, n = m + 1 := ⟨n - 1, by omega⟩
  rw [fpow_add]; grind
theorem inv_zero : invN 0 = 0 := zero_pow (by decide)
theorem inv_ne {x : Fp} (h : x ≠ 0) : invN x ≠ 0 := by
  intro h0
  have := inv_mul h
  rw [h0] at this
  exact one_ne (by grind)
theorem inv_inv (x : Fp) : invN (invN x) = x := by
  by_cases h : x = 0
  · rw [h, inv_zero, inv_zero]
  · have h1 := inv_mul h
    have h2 := inv_mul (inv_ne h)
    generalize invN (invN x) = z at h2 ⊢
    generalize invN x = y at h1 h2
    grind
theorem inv_prod (x y : Fp) : invN (x * y) = invN x * invN y := fmul_pow _ _ _
theorem pow_p (x : Fp) : x ^ p255 = x := by
  by_cases h : x = 0
  · rw [h]; exact zero_pow (by decide)
  · have := f_fermat h
    have e : x ^ p255 = x ^ ((p255 - 1) + 1) := congrArg (fun n : Nat => x ^ n) (by decide)
    rw [e, fpow_add, this]
    grind
theorem pow_top (x : Fp) : x ^ (2 ^ 255) = x ^ 20 := by
  rw [show (2 : Nat) ^ 255 = p255 + 19 by decide +kernel, fpow_add, pow_p, show (20 : Nat) = 1 + 19 by decide, fpow_add]
  grind
end Go.Proofs.YtjblfkmmbpcpaaaDoor

/-
  PLAIN (own work), FIELD PART 10: Add, Sub.
-/
namespace Go.Proofs.YtjblfkmmbpcpaaaDoor
set_option linter.unusedSimpArgs false
set_option linter.unusedVariables false
set_option linter.unusedSectionVars false
open Go Go.LW
set_option maxRecDepth 10000

def addA (a b : F5) (i : Nat) : F5 := fun q => if q < i then a q + b q else a q
def addF (a b : F5) : F5 := carF (addA a b 5)
theorem add_ok (a b : F5) : field_Elem_Add a b (addF a b) := by
  refine ⟨addA a b 5, ?_, _, car_ok _, rfl⟩
  have e : addA a b 0 = a := by funext q; unfold addA; rw [if_neg (by omega)]
  have h := Iter.count (step := field_Elem_Add_l0 b) (x := addA a b 5) (fun i => (i, addA a b i)) 5 (fun i hi => by
    unfold field_Elem_Add_l0; dsimp only
    rw [if_pos hi]
    have : upd (addA a b i) i (addA a b i i + b i) = addA a b (i + 1) := by
      funext q
      rw [upd_at]
      unfold addA
      by_cases h : q = i
      · subst h; rw [if_pos rfl, if_neg (by omega), if_pos (by omega)]
      · rw [if_neg h]
        by_cases h2 : q < i
        · rw [if_pos h2, if_pos (by omega)]
        · rw [if_neg h2, if_neg (by omega)]
    rw [this]) (by
    unfold field_Elem_Add_l0; dsimp only
    rw [if_neg (by omega)])
  rw [e] at h
  exact h
theorem rp_add {a b : F5} {x y : Fp} (ha : Rp a x) (hb : Rp b y) : Rp (addF a b) (x + y) := by
  have hq : ∀ q, q < 5 → (addA a b 5 q).toNat = (a q).toNat + (b q).toNat := fun q hq => by
    have h1 := ha.1 q hq
    have h2 := hb.1 q hq
    unfold Tt at h1 h2
    unfold addA
    rw [if_pos hq, BitVec.toNat_add, Nat.mod_eq_of_lt (by omega)]
  have hbd : Bnd (2 ^ 63) (addA a b 5) := fun q hq5 => by
    have h1 := ha.1 q hq5
    have h2 := hb.1 q hq5
    unfold Tt at h1 h2
    rw [hq q hq5]; omega
  refine ⟨carF_bt _ hbd, ?_⟩
  unfold addF
  rw [ofN_mod (carF_mod _ hbd)]
  have : val (addA a b 5) = val a + val b := by
    unfold val
    rw [hq 0 (by omega), hq 1 (by omega), hq 2 (by omega), hq 3 (by omega), hq 4 (by omega)]
    omega
  rw [this, ofN_add, ha.2, hb.2]
def subA (a b : F5) (i : Nat) : F5 := fun q => if q < i then a q + (twice5 q - b q) else a q
def subF (a b : F5) : F5 := carF (subA a b 5)
theorem sub_ok (a b : F5) : field_Elem_Sub a b (subF a b) := by
  refine ⟨subA a b 5, ?_, _, car_ok _, rfl⟩
  have e : subA a b 0 = a := by funext q; unfold subA; rw [if_neg (by omega)]
  have h := Iter.count (step := field_Elem_Sub_l0 b) (x := subA a b 5) (fun i => (i, subA a b i)) 5 (fun i hi => by
    unfold field_Elem_Sub_l0; dsimp only
    rw [if_pos hi]
    have : upd (subA a b i) i (subA a b i i + (twice5 i - b i)) = subA a b (i + 1) := by
      funext q
      rw [upd_at]
      unfold subA
      by_cases h : q = i
      · subst h; rw [if_pos rfl, if_neg (by omega), if_pos (by omega)]
      · rw [if_neg h]
        by_cases h2 : q < i
        · rw [if_pos h2, if_pos (by omega)]
        · rw [if_neg h2, if_neg (by omega)]
    rw [this]) (by
    unfold field_Elem_Sub_l0; dsimp only
    rw [if_neg (by omega)])
  rw [e] at h
  exact h
theorem twice_at : ∀ q, q < 5 → (twice5 q).toNat = if q = 0 then 4503599627370458 else 4503599627370494 := by decide +kernel
theorem rp_sub {a b : F5} {x y : Fp} (ha : Rp a x) (hb : Rp b y) : Rp (subF a b) (x - y) := by
  have hq : ∀ q, q < 5 → (subA a b 5 q).toNat + (b q).toNat = (a q).toNat + (twice5 q).toNat := fun q hq => by
    have h1 := ha.1 q hq
    have h2 := hb.1 q hq
    have h3 := twice_at q hq
    unfold Tt at h1 h2
    unfold subA
    rw [if_pos hq, BitVec.toNat_add, BitVec.toNat_sub, h3]
    split <;> omega
  have hbd : Bnd (2 ^ 63) (subA a b 5) := fun q hq5 => by
    have h1 := ha.1 q hq5
    have h2 := hb.1 q hq5
    have h3 := twice_at q hq5
    have h4 := hq q hq5
    unfold Tt at h1 h2
    rw [h3] at h4
    split at h4 <;> omega
  refine ⟨carF_bt _ hbd, ?_⟩
  unfold subF
  rw [ofN_mod (carF_mod _ hbd)]
  have hp : p255 = 57896044618658097711785492504343953926634992332820282019728792003956564819949 := by decide
  have : val (subA a b 5) + val b = val a + 2 * p255 := by
    have q0 := hq 0 (by omega)
    have q1 := hq 1 (by omega)
    have q2 := hq 2 (by omega)
    have q3 := hq 3 (by omega)
    have q4 := hq 4 (by omega)
    rw [twice_at _ (by omega)] at q0 q1 q2 q3 q4
    rw [if_pos rfl] at q0
    rw [if_neg (by omega)] at q1 q2 q3 q4
    unfold val
    rw [hp]
    omega
  have h2 : ofN (val (subA a b 5)) + y = x := by
    rw [← hb.2, ← ofN_add, this, ofN_add, ha.2, ofN_mul, ofN_p]
    grind
  generalize ofN (val (subA a b 5)) = z at h2 ⊢
  grind
end Go.Proofs.YtjblfkmmbpcpaaaDoor

/-
  PLAIN (own work): Equal.
-/
namespace Go.Proofs.YtjblfkmmbpcpaaaDoor
set_option linter.unusedSimpArgs false
set_option linter.unusedVariables false
set_option linter.unusedSectionVars false
open Go Go.LW

theorem eq_ok {a b : F5} {x y : Fp} (ha : Rp a x) (hb : Rp b y) : field_Elem_Equal a b (decide (x = y)) := by
  rw [← rp_eq ha hb]
  exact ⟨_, bytes_ok a, _, bytes_ok b, rfl⟩
end Go.Proofs.YtjblfkmmbpcpaaaDoor

/-
  PLAIN (own work), SQUARES modulo p: Euler's criterion, roots.
-/
namespace Go.Proofs.YtjblfkmmbpcpaaaDoor
set_option linter.unusedSimpArgs false
set_option linter.unusedVariables false
set_option linter.unusedSectionVars false
open Go Go.LW
set_option maxRecDepth 10000

theorem exp_root : numB (expF 254#8 15#8) 32 = (p255 + 3) / 8 := by decide +kernel
theorem exp_im : numB (expF 251#8 31#8) 32 = (p255 - 1) / 4 := by decide +kernel
def imN : Fp := ofN (Num.pm p255 256 2 ((p255 - 1) / 4))
theorem im_pow : (ofN 2 : Fp) ^ ((p255 - 1) / 4) = imN := by
  rw [← ofN_pow]
  unfold imN
  refine ofN_eq.2 ?_
  rw [Num.pm_spec p255 256 2 ((p255 - 1) / 4) (by decide +kernel)]
theorem im_sq : imN * imN = -1 := by
  have h : imN * imN + 1 = 0 := by decide +kernel
  grind
theorem fpow2 (x : Fp) (n : Nat) : x ^ (2 * n) = x ^ n * x ^ n := by rw [show 2 * n = n + n by omega, fpow_add]
theorem sq_one {x : Fp} (h : x * x = 1) : x = 1 ∨ x = -1 := by
  have h1 : (x - 1) * (x + 1) = 0 := by grind
  rcases f_dom h1 with h2 | h2
  · exact .inl (by grind)
  · exact .inr (by grind)
/-- the residue class: to the ((p-1)/2)-th -/
def chi (x : Fp) : Fp := x ^ ((p255 - 1) / 2)
theorem chi_mul (x y : Fp) : chi (x * y) = chi x * chi y := fmul_pow _ _ _
theorem chi_cases {x : Fp} (h : x ≠ 0) : chi x = 1 ∨ chi x = -1 := by
  refine sq_one ?_
  unfold chi
  rw [← fpow2, show 2 * ((p255 - 1) / 2) = p255 - 1 by decide]
  exact f_fermat h
theorem chi_sq {x : Fp} (h : x ≠ 0) : chi (x * x) = 1 := by
  rw [chi_mul]
  rcases chi_cases h with h1 | h1 <;> rw [h1] <;> grind
theorem two_ne : (2 : Fp) ≠ 0 := by
  intro h
  have := congrArg Fin.val h
  exact absurd this (by decide +kernel)
theorem neg_one_ne : (-1 : Fp) ≠ 1 := by
  intro h
  have := congrArg Fin.val h
  exact absurd this (by decide +kernel)
/-- the root's candidate -/
def candN (x : Fp) : Fp := x ^ ((p255 + 3) / 8)
theorem cand_sq (x : Fp) : candN x * candN x = x * x ^ ((p255 - 1) / 4) := by
  unfold candN
  rw [← fpow2, show 2 * ((p255 + 3) / 8) = 1 + (p255 - 1) / 4 by decide, fpow_add]
  grind
def hasR (x : Fp) : Prop := x = 0 ∨ chi x = 1
def rawN (x : Fp) : Fp := if candN x * candN x = x then candN x else candN x * imN
theorem raw_sq {x : Fp} (h : hasR x) : rawN x * rawN x = x := by
  unfold rawN
  have hc := cand_sq x
  by_cases hq : candN x * candN x = x
  · rw [if_pos hq]; exact hq
  · rw [if_neg hq]
    have hi := im_sq
    rcases h with h | h
    · exfalso; apply hq; rw [hc, h]; grind
    · have h4 : x ^ ((p255 - 1) / 4) * x ^ ((p255 - 1) / 4) = 1 := by
        rw [← fpow2, show 2 * ((p255 - 1) / 4) = (p255 - 1) / 2 by decide]; exact h
      rcases sq_one h4 with h5 | h5
      · exfalso; apply hq; rw [hc, h5]; grind
      · rw [h5] at hc
        generalize candN x = c at *
        grind
theorem raw_not {x : Fp} (h : ¬ hasR x) : rawN x * rawN x ≠ x := by
  have hx : x ≠ 0 := fun e => h (.inl e)
  have h1 : ∀ y : Fp, y * y ≠ x := fun y e => by
    have hy : y ≠ 0 := fun e0 => hx (by rw [← e, e0]; grind)
    exact h (.inr (by rw [← e]; exact chi_sq hy))
  exact h1 _
theorem hasR_sq (x : Fp) : hasR (x * x) := by
  by_cases h : x = 0
  · exact .inl (by rw [h]; grind)
  · exact .inr (chi_sq h)
theorem hasR_not {x : Fp} (h : ¬ hasR x) : x ≠ 0 ∧ chi x = -1 := by
  have hx : x ≠ 0 := fun e => h (.inl e)
  exact ⟨hx, (chi_cases hx).resolve_left fun e => h (.inr e)⟩
theorem hasR_mul {x y : Fp} (hx : ¬ hasR x) (hy : y ≠ 0) : (hasR (x * y) ↔ ¬ hasR y) := by
  obtain ⟨hx0, hx1⟩ := hasR_not hx
  have hprod : chi (x * y) = -1 * chi y := by rw [chi_mul, hx1]
  constructor
  · intro h h2
    have e1 : chi (x * y) = 1 := by
      rcases h with h | h
      · rcases f_dom h with h | h
        · exact absurd h hx0
        · exact absurd h hy
      · exact h
    have e2 : chi y = 1 := h2.resolve_left hy
    rw [hprod, e2] at e1
    exact neg_one_ne (by grind)
  · intro h
    obtain ⟨_, e⟩ := hasR_not h
    exact .inr (by rw [hprod, e]; grind)
end Go.Proofs.YtjblfkmmbpcpaaaDoor

/-
  PLAIN LAW OF FieldRoots (own work): squares have an even root; two without one have a product that has one.
-/
namespace Go.Proofs.YtjblfkmmbpcpaaaDoor
set_option linter.unusedSimpArgs false
set_option linter.unusedVariables false
set_option linter.unusedSectionVars false
open Go Go.LW
set_option maxRecDepth 10000

theorem oddb (b : BitVec 8) : (b &&& 1#8 = 1#8 ↔ b.toNat % 2 = 1) ∧ (b &&& 1#8 = 0#8 ↔ b.toNat % 2 = 0) := by
  have : ∀ b : BitVec 8, (b &&& 1#8 = 1#8 ↔ b.toNat % 2 = 1) ∧ (b &&& 1#8 = 0#8 ↔ b.toNat % 2 = 0) := by decide +kernel
  exact this b
theorem bytes0 {a : F5} {x : Fp} (h : Rp a x) : (bytesF a 0).toNat % 2 = x.val % 2 := by
  have h1 := byte_num (bytesF a) (q := 0) (by omega)
  rw [rp_bytes h, Nat.pow_zero, Nat.div_one] at h1
  rw [h1]; omega
theorem neg_val {x : Fp} (h : x ≠ 0) : (0 - x).val = p255 - x.val := by
  have h1 : (0 - x) + x = 0 := by grind
  have h2 := congrArg Fin.val h1
  rw [Fin.val_add] at h2
  have h3 := (0 - x).isLt
  have h4 := x.isLt
  have h5 : x.val ≠ 0 := fun e => h (Fin.ext e)
  have h6 : ((0 : Fp)).val = 0 := rfl
  rw [h6] at h2
  generalize (0 - x).val = a at *
  generalize x.val = b at *
  have : a + b = p255 := by
    obtain ⟨c, hc⟩ := Nat.dvd_of_mod_eq_zero h2
    have hc2 : c < 2 := Nat.lt_of_mul_lt_mul_left (a := p255) (by omega)
    rcases (by omega : c = 0 ∨ c = 1) with rfl | rfl <;> omega
  omega
/-- Root -/
def evenN (x : Fp) : Fp := if x.val % 2 = 1 then 0 - x else x
theorem even_sq (x : Fp) : evenN x * evenN x = x * x := by
  unfold evenN; split <;> grind
theorem even_even (x : Fp) : (evenN x).val % 2 = 0 := by
  unfold evenN
  by_cases h : x.val % 2 = 1
  · rw [if_pos h]
    have hx : x ≠ 0 := fun e => by rw [e] at h; exact absurd h (by decide)
    rw [neg_val hx]
    have := x.isLt
    have hp : p255 % 2 = 1 := by decide
    omega
  · rw [if_neg h]; omega
def rootN (x : Fp) : Fp := if rawN x * rawN x = x then evenN (rawN x) else 0
theorem root_rp {a : F5} {x : Fp} (ha : Rp a x) : ∃ r, field_Elem_Root a (r, decide (rawN x * rawN x = x)) ∧ Rp r (rootN x) := by
  obtain ⟨c, c1, c2⟩ := pow_rp ha (expF 254#8 15#8)
  rw [exp_root] at c2
  replace c2 : Rp c (candN x) := c2
  obtain ⟨m, hm, hR⟩ : ∃ m, (∃ x_46, field_Elem_Square c x_46 ∧ ∃ x_49, field_Elem_Equal x_46 a x_49 ∧ if x_49 = true then (m = c) else (∃ x_54, field_Small (2#32) x_54 ∧ ∃ x_57, field_exponent (251#8) (31#8) x_57 ∧ ∃ x_60, field_Elem_Pow x_54 x_57 x_60 ∧ ∃ x_63, field_Elem_Mul c x_60 x_63 ∧ m = x_63)) ∧ Rp m (rawN x) := by
    unfold rawN
    by_cases hq : candN x * candN x = x
    · exact ⟨c, ⟨_, sq_ok _, _, eq_ok (rp_mul c2 c2) ha, by rw [if_pos (decide_eq_true hq)]⟩, by rw [if_pos hq]; exact c2⟩
    · obtain ⟨j, j1, j2⟩ := pow_rp (rp_small 2#32) (expF 251#8 31#8)
      rw [exp_im, show (2#32 : BitVec 32).toNat = 2 by decide, im_pow] at j2
      refine ⟨mulF c j, ⟨_, sq_ok _, _, eq_ok (rp_mul c2 c2) ha, ?_⟩, by rw [if_neg hq]; exact rp_mul c2 j2⟩
      rw [if_neg (by rw [decide_eq_true_iff]; exact hq)]
      exact ⟨_, small_ok _, _, exp_ok _ _, _, j1, _, mul_ok _ _, rfl⟩
  by_cases hq : rawN x * rawN x = x
  · obtain ⟨n, hn, hN⟩ : ∃ n, (∃ x_91, field_Elem_Bytes m x_91 ∧ if ((x_91 0) &&& (1#8)) = 1#8 then (∃ x_95, field_Elem_Sub (fun _ => 0#64) m x_95 ∧ n = x_95) else (n = m)) ∧ Rp n (evenN (rawN x)) := by
      unfold evenN
      by_cases ho : (rawN x).val % 2 = 1
      · refine ⟨_, ⟨_, bytes_ok m, ?_⟩, by rw [if_pos ho]; exact rp_sub rp_zero hR⟩
        rw [if_pos ((oddb _).1.2 (by rw [bytes0 hR]; exact ho))]
        exact ⟨_, sub_ok _ _, rfl⟩
      · refine ⟨_, ⟨_, bytes_ok m, ?_⟩, by rw [if_neg ho]; exact hR⟩
        rw [if_neg (fun h => ho (by rw [← bytes0 hR]; exact (oddb _).1.1 h))]
    refine ⟨n, ⟨_, exp_ok _ _, c, c1, m, hm, _, sq_ok _, _, eq_ok (rp_mul hR hR) ha, ?_⟩, by unfold rootN; rw [if_pos hq]; exact hN⟩
    rw [if_pos (decide_eq_true hq), decide_eq_true hq]
    exact ⟨n, hn, rfl⟩
  · refine ⟨fun _ => 0#64, ⟨_, exp_ok _ _, c, c1, m, hm, _, sq_ok _, _, eq_ok (rp_mul hR hR) ha, ?_⟩, by unfold rootN; rw [if_neg hq]; exact rp_zero⟩
    rw [if_neg (by rw [decide_eq_true_iff]; exact hq), decide_eq_false hq]
theorem root_sq {x : Fp} (h : rawN x * rawN x = x) : rootN x * rootN x = x := by
  unfold rootN; rw [if_pos h, even_sq]; exact h
theorem root_even {x : Fp} (h : rawN x * rawN x = x) : (rootN x).val % 2 = 0 := by
  unfold rootN; rw [if_pos h]; exact even_even _
theorem rootP {a : F5} {x : Fp} (ha : Rp a x) : ∃ r s ok, field_Elem_Root a (r, ok) ∧ Rp r s ∧ (ok = true → s * s = x ∧ s.val % 2 = 0) ∧ (ok = false → s = 0 ∧ ¬ hasR x) ∧ (hasR x → ok = true) := by
  obtain ⟨r, h1, h2⟩ := root_rp ha
  refine ⟨r, _, _, h1, h2, fun h => ?_, fun h => ?_, fun h => decide_eq_true (raw_sq h)⟩
  · have hq := of_decide_eq_true h
    exact ⟨root_sq hq, root_even hq⟩
  · have hq := of_decide_eq_false h
    exact ⟨by unfold rootN; rw [if_neg hq], fun h3 => hq (raw_sq h3)⟩
theorem root_or {x s : Fp} (h : s * s = x * x) : s = x ∨ s + x = 0 := by
  have h3 : (s - x) * (s + x) = 0 := by grind
  rcases f_dom h3 with h4 | h4
  · exact .inl (by grind)
  · exact .inr h4
theorem fieldRoots_true (x y : Nat → BitVec 8) : lethelaw06_FieldRoots x y true := by
  have a := rp_read x
  have b := rp_read y
  have tr : ∀ {p : Prop} [Decidable p], p → decide p = true := fun h => decide_eq_true h
  obtain ⟨s, S, ok, hs, hS, s1, s2, s3⟩ := rootP (rp_mul a a)
  obtain rfl := s3 (hasR_sq _)
  obtain ⟨h1, h2⟩ := s1 rfl
  obtain ⟨r, R, ok1, hr, hR, r1, r2, r3⟩ := rootP a
  obtain ⟨u, U, ok2, hu, hU, u1, u2, u3⟩ := rootP b
  obtain ⟨v, V, ok3, hv, hV, v1, v2, v3⟩ := rootP (rp_mul a b)
  have hm := hasR_mul (x := ofB x) (y := ofB y)
  have rx := read_ok x
  have ry := read_ok y
  generalize ofB x = X at *
  generalize ofB y = Y at *
  refine ⟨_, rx, _, sq_ok _, s, true, hs, true, ?_, fun _ => ?_⟩
  · rw [if_pos rfl]
    refine ⟨_, sq_ok _, _, sq_ok _, _, eq_ok (rp_mul hS hS) (rp_mul a a), ?_⟩
    rw [if_pos (tr h1)]
    refine ⟨_, bytes_ok _, ?_⟩
    rw [if_neg (fun h => h ((oddb _).2.2 (by rw [bytes0 hS]; exact h2)))]
    refine ⟨_, eq_ok hS a, ?_⟩
    by_cases he : S = X
    · rw [if_pos (tr he)]
    · rw [if_neg (by rw [decide_eq_true_iff]; exact he)]
      refine ⟨_, add_ok _ _, _, eq_ok (rp_add hS a) rp_zero, ?_⟩
      rw [if_pos (tr ((root_or h1).resolve_left he))]
  · refine ⟨r, _, hr, ?_⟩
    cases ok1 with
    | true =>
      obtain ⟨h3, h4⟩ := r1 rfl
      rw [if_pos rfl]
      refine ⟨_, sq_ok _, _, eq_ok (rp_mul hR hR) a, ?_⟩
      rw [if_pos (tr h3)]
      refine ⟨_, bytes_ok _, ?_⟩
      rw [tr ((oddb _).2.2 (by rw [bytes0 hR]; exact h4))]
    | false =>
      obtain ⟨h3, h4⟩ := r2 rfl
      rw [if_neg Bool.false_ne_true]
      refine ⟨_, ry, u, _, hu, _, mul_ok _ _, v, _, hv, _, eq_ok hR rp_zero, ?_⟩
      rw [if_pos (tr h3)]
      refine ⟨_, eq_ok b rp_zero, ?_⟩
      by_cases h0 : Y = 0
      · rw [if_pos (tr h0)]
      · rw [if_neg (by rw [decide_eq_true_iff]; exact h0)]
        have h5 := hm h4 h0
        cases ok2 with
        | true =>
          have : ok3 = false := by
            cases ok3 with
            | false => rfl
            | true => 
              exfalso
              have h6 : ¬ hasR Y := h5.1 (by
                by_cases h7 : hasR (X * Y)
                · exact h7
                · exact .inr (by
                    obtain ⟨e1, e2⟩ := v1 rfl
                    have h8 := hasR_sq V
                    rw [e1] at h8
                    exact absurd h8 h7))
              obtain ⟨e1, e2⟩ := u1 rfl
              have h8 := hasR_sq U
              rw [e1] at h8
              exact h6 h8
          rw [this]; rfl
        | false =>
          have := v3 (h5.2 (u2 rfl).2)
          rw [this]; rfl
end Go.Proofs.YtjblfkmmbpcpaaaDoor

/-
  PLAIN (own work): the document's numbers of sixteen digits (letheref06): carried, folded, reduced.
-/
namespace Go.Proofs.YtjblfkmmbpcpaaaDoor
set_option linter.unusedSimpArgs false
set_option linter.unusedVariables false
set_option linter.unusedSectionVars false
open Go Go.LW
set_option maxRecDepth 10000

theorem iter6 {S X : Type} {step : S → S ⊕ X → Prop} (J : S → Prop) (Q : X → Prop) (μ : S → Nat)
    (h : ∀ s, J s → (∃ x, step s (.inr x) ∧ Q x) ∨ ∃ s', step s (.inl s') ∧ J s' ∧ μ s' < μ s) : ∀ n s, μ s < n → J s → ∃ x, Iter step s x ∧ Q x
  | 0, s, hn, _ => absurd hn (Nat.not_lt_zero _)
  | n + 1, s, hn, hJ => by
    rcases h s hJ with ⟨x, hx, hQ⟩ | ⟨s', hs, hJ', hm⟩
    · exact ⟨x, .done hx, hQ⟩
    · obtain ⟨x, hx, hQ⟩ := iter6 J Q μ h n s' (by omega) hJ'
      exact ⟨x, .more hs hx, hQ⟩
/-- digits to the base 65536 -/
def vf (t : Nat → Int) : Nat → Int
  | 0 => 0
  | n + 1 => vf t n + t n * 65536 ^ n
theorem vf_congr {t u : Nat → Int} : ∀ n, (∀ i, i < n → t i = u i) → vf t n = vf u n
  | 0, _ => rfl
  | n + 1, h => by show vf t n + _ = vf u n + _; rw [vf_congr n fun i hi => h i (by omega), h n (by omega)]
theorem vf_nonneg {t : Nat → Int} : ∀ n, (∀ i, i < n → 0 ≤ t i) → 0 ≤ vf t n
  | 0, _ => Int.le_refl _
  | n + 1, h => Int.add_nonneg (vf_nonneg n fun i hi => h i (by omega)) (Int.mul_nonneg (h n (by omega)) (Int.pow_nonneg (by decide)))
theorem vf_lt {t : Nat → Int} : ∀ n, (∀ i, i < n → t i < 65536) → vf t n < 65536 ^ n
  | 0, _ => by show (0 : Int) < 1; decide
  | n + 1, h => by
    have h1 := vf_lt n fun i hi => h i (by omega)
    have h2 : t n * 65536 ^ n ≤ 65535 * 65536 ^ n := Int.mul_le_mul_of_nonneg_right (by have := h n (by omega); omega) (Int.pow_nonneg (by decide))
    show vf t n + t n * 65536 ^ n < 65536 ^ (n + 1)
    rw [Int.pow_succ]
    generalize (65536 : Int) ^ n = B at *
    omega
theorem vf_add (t u : Nat → Int) : ∀ n, vf (fun i => t i + u i) n = vf t n + vf u n
  | 0 => rfl
  | n + 1 => by
    show vf (fun i => t i + u i) n + (t n + u n) * _ = vf t n + t n * _ + (vf u n + u n * _)
    rw [vf_add t u n, Int.add_mul]; omega
theorem vf_smul (c : Int) (t : Nat → Int) : ∀ n, vf (fun i => c * t i) n = c * vf t n
  | 0 => by show 0 = c * 0; rw [Int.mul_zero]
  | n + 1 => by
    show vf (fun i => c * t i) n + c * t n * _ = c * (vf t n + t n * _)
    rw [vf_smul c t n, Int.mul_add, Int.mul_assoc]
theorem vf_split (t : Nat → Int) (n : Nat) : ∀ m, vf t (n + m) = vf t n + 65536 ^ n * vf (fun i => t (n + i)) m
  | 0 => by show vf t n = vf t n + _ * 0; rw [Int.mul_zero, Int.add_zero]
  | m + 1 => by
    show vf t (n + m) + t (n + m) * 65536 ^ (n + m) = vf t n + 65536 ^ n * (vf (fun i => t (n + i)) m + t (n + m) * 65536 ^ m)
    rw [vf_split t n m, Int.pow_add, Int.mul_add]
    have : t (n + m) * (65536 ^ n * 65536 ^ m) = 65536 ^ n * (t (n + m) * 65536 ^ m) := by ac_rfl
    omega
theorem vf_zero {t : Nat → Int} {n : Nat} : ∀ m, (∀ i, n ≤ i → i < n + m → t i = 0) → vf t (n + m) = vf t n
  | 0, _ => rfl
  | m + 1, h => by
    show vf t (n + m) + t (n + m) * _ = vf t n
    rw [vf_zero m fun i h1 h2 => h i h1 (by omega), h (n + m) (by omega) (by omega), Int.zero_mul, Int.add_zero]
theorem vf_one {t : Nat → Int} {n q : Nat} (hq : q < n) (h : ∀ i, i < n → 0 ≤ t i) : t q * 65536 ^ q ≤ vf t n := by
  have h1 : vf t (q + 1) = vf t q + t q * 65536 ^ q := rfl
  have h2 := vf_split t (q + 1) (n - (q + 1))
  rw [show q + 1 + (n - (q + 1)) = n by omega] at h2
  have h3 := vf_nonneg q fun i hi => h i (by omega)
  have h4 := vf_nonneg (t := fun i => t (q + 1 + i)) (n - (q + 1)) fun i hi => h _ (by omega)
  have h5 := Int.mul_nonneg (show (0 : Int) ≤ 65536 ^ (q + 1) from Int.pow_nonneg (by decide)) h4
  omega
/-! lists as digits -/
def ld (d : List Int) : Nat → Int := fun i => d.getD i 0
theorem ld_out (d : List Int) {i : Nat} (h : d.length ≤ i) : ld d i = 0 := by
  unfold ld; rw [List.getD_eq_getElem?_getD, List.getElem?_eq_none h]; rfl
theorem ld_dli {n i : Nat} {f : Nat → Int} : ld (dli n f) i = if i < n then f i else 0 := by
  split
  · exact dli_getD (by assumption) 0
  · exact ld_out _ (by rw [dli_length]; omega)
theorem dli_set {n q : Nat} {f : Nat → Int} {v : Int} (_ : q < n) : (dli n f).set q v = dli n (upd f q v) := by
  apply List.ext_getElem?
  intro j
  unfold dli
  rw [List.getElem?_set, List.getElem?_map, List.getElem?_map, List.length_map, List.length_range]
  by_cases hj : j < n
  · rw [List.getElem?_range hj]
    by_cases h : q = j
    · subst h; rw [if_pos rfl, if_pos hj]; show _ = some (upd f q v q); rw [upd_same]
    · rw [if_neg h]; show _ = some (upd f q v j); rw [upd_ne _ _ _ _ (by omega)]; rfl
  · have hr : (List.range n)[j]? = none := List.getElem?_eq_none (by simpa using hj)
    rw [hr]
    by_cases h : q = j
    · subst h; omega
    · rw [if_neg h]; rfl
theorem dli_append (n : Nat) (f : Nat → Int) : dli n f ++ [f n] = dli (n + 1) f := by
  unfold dli; rw [List.range_succ, List.map_append]; rfl
theorem dli_congr {n : Nat} {f g : Nat → Int} (h : ∀ i, i < n → f i = g i) : dli n f = dli n g := by
  unfold dli; exact List.map_congr_left fun q hq => h q (List.mem_range.1 hq)
theorem dli_ld (d : List Int) : dli d.length (ld d) = d := by
  apply List.ext_getElem?
  intro j
  unfold dli
  rw [List.getElem?_map]
  by_cases hj : j < d.length
  · rw [List.getElem?_range hj, List.getElem?_eq_getElem hj]
    unfold ld
    show some (d.getD j 0) = _
    rw [List.getD_eq_getElem?_getD, List.getElem?_eq_getElem hj]; rfl
  · rw [List.getElem?_eq_none (by simpa using hj), List.getElem?_eq_none (by omega)]; rfl
/-! ### carried -/
def cc6 (t : Nat → Int) : Nat → Int
  | 0 => 0
  | i + 1 => (cc6 t i + t i).tdiv 65536
def cd6 (t : Nat → Int) (i : Nat) : Int := (cc6 t i + t i).tmod 65536
theorem cc6_val {t : Nat → Int} (h : ∀ i, 0 ≤ t i) : ∀ n, 0 ≤ cc6 t n ∧ vf t n = vf (cd6 t) n + cc6 t n * 65536 ^ n
  | 0 => ⟨Int.le_refl _, by show 0 = 0 + 0 * 1; omega⟩
  | n + 1 => by
    obtain ⟨h1, h2⟩ := cc6_val h n
    have h3 := h n
    have h5 : cc6 t n + t n = cd6 t n + cc6 t (n + 1) * 65536 := by
      show _ = (cc6 t n + t n).tmod 65536 + (cc6 t n + t n).tdiv 65536 * 65536
      have := Int.tmod_add_mul_tdiv (cc6 t n + t n) 65536
      omega
    refine ⟨Int.tdiv_nonneg (by omega) (by decide), ?_⟩
    show vf t n + t n * 65536 ^ n = vf (cd6 t) n + cd6 t n * 65536 ^ n + cc6 t (n + 1) * 65536 ^ (n + 1)
    rw [Int.pow_succ]
    have h6 : t n * 65536 ^ n + cc6 t n * 65536 ^ n = (cd6 t n + cc6 t (n + 1) * 65536) * 65536 ^ n := by rw [← Int.add_mul, ← h5, Int.add_comm]
    generalize (65536 : Int) ^ n = B at *
    have h7 : (cd6 t n + cc6 t (n + 1) * 65536) * B = cd6 t n * B + cc6 t (n + 1) * (B * 65536) := by rw [Int.add_mul, Int.mul_assoc, Int.mul_comm 65536 B]
    omega
theorem cd6_lt {t : Nat → Int} (h : ∀ i, 0 ≤ t i) (i : Nat) : 0 ≤ cd6 t i ∧ cd6 t i < 65536 := by
  have h1 := (cc6_val h i).1
  have h2 := h i
  exact ⟨Int.tmod_nonneg _ (by omega), Int.tmod_lt_of_pos _ (by decide)⟩
theorem cc6_le {t : Nat → Int} (h : ∀ i, 0 ≤ t i ∧ t i ≤ 1099511627776) : ∀ n, cc6 t n ≤ 33554432
  | 0 => by show (0 : Int) ≤ _; decide
  | n + 1 => by
    have h1 := cc6_le h n
    have h2 := (cc6_val (fun i => (h i).1) n).1
    have h3 := h n
    show (cc6 t n + t n).tdiv 65536 ≤ _
    rw [Int.tdiv_eq_ediv_of_nonneg (by omega)]
    omega
theorem carried6 (d : List Int) (h : ∀ i, 0 ≤ ld d i ∧ ld d i ≤ 1099511627776) (hl : d.length ≤ 32) (hV : vf (ld d) 32 < 65536 ^ 32) :
    ∃ N, 16 ≤ N ∧ N ≤ 32 ∧ letheref06_carried d (dli N (cd6 (ld d))) ∧ vf (cd6 (ld d)) N = vf (ld d) 32 := by
  obtain ⟨r, hI, N, h1, h2, h3, h4, rfl⟩ := iter6 (step := letheref06_carried_l0 d)
    (fun s : List Int × Int × Nat => s.2.2 ≤ 32 ∧ s = (dli s.2.2 (cd6 (ld d)), cc6 (ld d) s.2.2, s.2.2))
    (fun r => ∃ N, 16 ≤ N ∧ N ≤ 32 ∧ d.length ≤ N ∧ cc6 (ld d) N = 0 ∧ r = dli N (cd6 (ld d))) (fun s => 32 - s.2.2) (by
    rintro ⟨o, c, i⟩ ⟨hi, he⟩
    dsimp only at hi he
    obtain ⟨he1, he2⟩ := Prod.mk.inj he
    obtain ⟨he3, -⟩ := Prod.mk.inj he2
    clear he he2
    subst he1 he3
    dsimp only at hi ⊢
    have hc := cc6_val (fun i => (h i).1) i
    have hcl := cc6_le h i
    have hd := h i
    have h32 : i = 32 → cc6 (ld d) i = 0 := by
      rintro rfl
      have h5 := vf_nonneg 32 fun i _ => (cd6_lt (fun i => (h i).1) i).1
      have h6 := hc.2
      have hB : (0 : Int) < 65536 ^ 32 := Int.pow_pos (by decide)
      generalize (65536 : Int) ^ 32 = B at *
      have : ¬ 0 < cc6 (ld d) 32 := fun hc0 => by
        have : 1 * B ≤ cc6 (ld d) 32 * B := Int.mul_le_mul_of_nonneg_right hc0 (by omega)
        omega
      omega
    unfold letheref06_carried_l0
    dsimp only
    rw [dli_length]
    by_cases hgo : i < d.length ∨ 0 < cc6 (ld d) i ∨ i < 16
    · have hi32 : i < 32 := by
        rcases Nat.lt_or_ge i 32 with h' | h'
        · exact h'
        · have := h32 (by omega); omega
      refine .inr ⟨(dli (i + 1) (cd6 (ld d)), cc6 (ld d) (i + 1), i + 1), ⟨true, ?_, fun _ => ⟨cc6 (ld d) i + ld d i, ?_, ?_, ?_, ?_, ?_⟩⟩, ⟨by dsimp only; omega, rfl⟩, by dsimp only; omega⟩
      · by_cases a : i < d.length
        · rw [if_pos a]
        · rw [if_neg a]
          by_cases b : 0 < cc6 (ld d) i
          · rw [if_pos b]
          · rw [if_neg b, if_pos (by omega)]
      · by_cases a : i < d.length
        · rw [if_pos a]; exact ⟨a, by show _ ∧ cc6 (ld d) i + ld d i ≤ _; change -9223372036854775808 ≤ cc6 (ld d) i + ld d i ∧ _; omega, rfl⟩
        · rw [if_neg a, ld_out d (by omega), Int.add_zero]
      · simp only [List.length_cons, List.length_nil]; omega
      · rw [Int.tdiv_eq_ediv_of_nonneg (by omega)]; omega
      · omega
      · rw [← dli_append]; rfl
    · refine .inl ⟨dli i (cd6 (ld d)), ⟨false, ?_, fun h => by cases h⟩, i, by omega, hi, by omega, by omega, rfl⟩
      rw [if_neg (by omega), if_neg (by omega), if_neg (by omega)]
      exact ⟨rfl, rfl⟩) 33 (([] : List Int), 0, 0) (by decide) ⟨by decide, rfl⟩
  refine ⟨N, h1, h2, ⟨_, hI, rfl⟩, ?_⟩
  have h5 := (cc6_val (fun i => (h i).1) N).2
  rw [h4, Int.zero_mul, Int.add_zero] at h5
  have h6 := vf_zero (t := ld d) (n := N) (32 - N) fun i h7 _ => ld_out d (by omega)
  rw [show N + (32 - N) = 32 by omega] at h6
  rw [h6, h5]
end Go.Proofs.YtjblfkmmbpcpaaaDoor

/-
  PLAIN (own work): letheref06: folded and reduced.
-/
namespace Go.Proofs.YtjblfkmmbpcpaaaDoor
set_option linter.unusedSimpArgs false
set_option linter.unusedVariables false
set_option linter.unusedSectionVars false
open Go Go.LW
set_option maxRecDepth 10000

theorem e15 : (65536 : Int) ^ 15 * 32768 = (p255 : Int) + 19 := by decide +kernel
theorem e16 : (65536 : Int) ^ 16 = 2 * (p255 : Int) + 38 := by decide +kernel
def f15 (d : List Int) : Nat → Int := upd (ld d) 15 ((ld d 15).tmod 32768)
def fo6 (d : List Int) (i : Nat) : Nat → Int := fun q => f15 d q + (if q = 0 then 19 * (ld d 15).tdiv 32768 else 0) + (if q + 16 < i then 38 * ld d (q + 16) else 0)
theorem folded6 (d : List Int) (h : ∀ i, 0 ≤ ld d i ∧ ld d i < 65536) (h16 : 16 ≤ d.length) (h32 : d.length ≤ 32) :
    ∃ f hi, letheref06_folded d (dli 16 f) ∧ (∀ i, i < 16 → 0 ≤ f i ∧ f i ≤ 1099511627776) ∧ 0 ≤ hi ∧ vf f 16 = vf (ld d) 32 - (p255 : Int) * hi ∧ (hi = 0 → (∀ i, i < 16 → f i = ld d i) ∧ ld d 15 < 32768) := by
  have hh : 0 ≤ (ld d 15).tdiv 32768 ∧ (ld d 15).tdiv 32768 ≤ 1 := by
    have := h 15
    rw [Int.tdiv_eq_ediv_of_nonneg (by omega)]; omega
  have hm : 0 ≤ (ld d 15).tmod 32768 ∧ (ld d 15).tmod 32768 < 32768 := by
    have := h 15
    rw [Int.tmod_eq_emod_of_nonneg (by omega)]; omega
  have hdm : ld d 15 = (ld d 15).tmod 32768 + (ld d 15).tdiv 32768 * 32768 := by
    have := Int.tmod_add_mul_tdiv (ld d 15) 32768
    omega
  have hf15 : ∀ q, 0 ≤ f15 d q ∧ f15 d q < 65536 := fun q => by
    have := h q
    unfold f15; rw [upd_at]; split <;> omega
  have hfo : ∀ i q, 0 ≤ fo6 d i q ∧ fo6 d i q ≤ 65536 + 19 + 38 * 65536 := fun i q => by
    have h1 := hf15 q
    have h2 := h (q + 16)
    unfold fo6
    split <;> split <;> omega
  have hU := vf_nonneg (t := fun q => ld d (16 + q)) 16 fun i _ => (h _).1
  refine ⟨fo6 d d.length, (ld d 15).tdiv 32768 + 2 * vf (fun q => ld d (16 + q)) 16, ?_, fun i _ => by have := hfo d.length i; omega, by omega, ?_, fun h0 => ?_⟩
  · -- the walk
    have w0 : Iter (letheref06_folded_l0 d) (0, List.replicate 16 (0 : Int)) (dli 16 (ld d)) := by
      have z : List.replicate 16 (0 : Int) = dli 16 (fun q => if q < 0 then ld d q else 0) := by
        rw [show (fun q => if q < 0 then ld d q else 0) = fun _ => (0 : Int) from funext fun q => if_neg (by omega)]; decide
      have o : dli 16 (ld d) = dli 16 (fun q => if q < 16 then ld d q else 0) := dli_congr fun i hi => by rw [if_pos hi]
      rw [z, o]
      refine Iter.count (fun i => (i, dli 16 (fun q => if q < i then ld d q else 0))) 16 (fun i hi => ?_) ?_
      · unfold letheref06_folded_l0; dsimp only
        rw [if_pos hi, dli_length, dli_set hi]
        refine ⟨by omega, hi, ?_⟩
        have : upd (fun q => if q < i then ld d q else 0) i (d.getD i 0) = fun q => if q < i + 1 then ld d q else 0 := by
          funext q; rw [upd_at]
          by_cases hq : q = i
          · subst hq; rw [if_pos rfl, if_pos (by omega)]; rfl
          · rw [if_neg hq]
            by_cases h2 : q < i
            · rw [if_pos h2, if_pos (by omega)]
            · rw [if_neg h2, if_neg (by omega)]
        rw [this]
      · unfold letheref06_folded_l0; dsimp only; rw [if_neg (by omega)]
    refine ⟨_, w0, by omega, by rw [dli_length]; decide, dli 16 (fo6 d d.length), ?_, rfl⟩
    rw [dli_set (by decide)]
    refine Iter.more (s' := (16, dli 16 (fo6 d 16))) ?_ ?_
    · unfold letheref06_folded_l1; dsimp only
      rw [if_pos (by omega), if_pos rfl]
      refine ⟨by omega, by omega, ?_, ?_, dli 16 (fo6 d 16), ⟨_, Iter.done (by unfold letheref06_folded_l2; rw [dli_length, if_neg (by decide)]), by rw [dli_length]; decide, ?_, by rw [dli_length]; decide, ?_⟩, rfl⟩
      · change -9223372036854775808 ≤ (ld d 15).tdiv 32768 ∧ (ld d 15).tdiv 32768 ≤ 9223372036854775807
        omega
      · change -9223372036854775808 ≤ 19 * (ld d 15).tdiv 32768 ∧ 19 * (ld d 15).tdiv 32768 ≤ 9223372036854775807
        omega
      · rw [dli_getD (by decide)]
        have h1 := hf15 0
        change -9223372036854775808 ≤ f15 d 0 + 19 * (ld d 15).tdiv 32768 ∧ f15 d 0 + 19 * (ld d 15).tdiv 32768 ≤ 9223372036854775807
        omega
      · rw [dli_getD (by decide), dli_set (by decide)]
        refine dli_congr fun q hq => ?_
        rw [upd_at]
        show fo6 d 16 q = if q = 0 then f15 d 0 + 19 * (ld d 15).tdiv 32768 else f15 d q
        unfold fo6
        rw [if_neg (show ¬ q + 16 < 16 by omega), Int.add_zero]
        by_cases hq0 : q = 0
        · subst hq0; rw [if_pos rfl, if_pos rfl]
        · rw [if_neg hq0, if_neg hq0, Int.add_zero]
    · have key : ∀ k, 16 + k ≤ d.length → Iter (letheref06_folded_l1 d) (d.length - k, dli 16 (fo6 d (d.length - k))) (dli 16 (fo6 d d.length)) := by
        intro k
        induction k with
        | zero =>
          intro _
          refine Iter.done ?_
          unfold letheref06_folded_l1; dsimp only
          rw [Nat.sub_zero, if_neg (by omega)]
        | succ k ih =>
          intro hk
          have ih' := ih (by omega)
          obtain ⟨i, hi, hi2⟩ : ∃ i, d.length - (k + 1) = i ∧ d.length - k = i + 1 := ⟨_, rfl, by omega⟩
          rw [hi]
          rw [hi2] at ih'
          refine Iter.more (s' := (i + 1, dli 16 (fo6 d (i + 1)))) ?_ ih'
          have hdi := h i
          have hfi := hfo i (i - 16)
          unfold letheref06_folded_l1; dsimp only
          rw [if_pos (by omega), if_neg (by omega)]
          have ei : (((i : Nat) : Int) - 16).toNat = i - 16 := by omega
          refine ⟨by omega, by omega, ?_, dli 16 (fo6 d (i + 1)), ⟨_, Iter.done (by unfold letheref06_folded_l3; rw [dli_length, if_neg (by omega)]), by rw [dli_length]; omega, ?_, by rw [dli_length]; omega, ?_⟩, by omega, rfl⟩
          · change -9223372036854775808 ≤ 38 * ld d i ∧ 38 * ld d i ≤ 9223372036854775807
            omega
          · rw [ei, dli_getD (by omega)]
            change -9223372036854775808 ≤ fo6 d i (i - 16) + 38 * ld d i ∧ fo6 d i (i - 16) + 38 * ld d i ≤ 9223372036854775807
            omega
          · rw [ei, dli_getD (by omega), dli_set (by omega)]
            refine dli_congr fun q hq => ?_
            rw [upd_at]
            show fo6 d (i + 1) q = if q = i - 16 then fo6 d i (i - 16) + 38 * ld d i else fo6 d i q
            unfold fo6
            by_cases hq0 : q = i - 16
            · subst hq0
              rw [if_pos rfl, if_pos (show i - 16 + 16 < i + 1 by omega), if_neg (show ¬ i - 16 + 16 < i by omega), Int.add_zero, show i - 16 + 16 = i by omega]
            · rw [if_neg hq0]
              by_cases hq1 : q + 16 < i
              · rw [if_pos hq1, if_pos (show q + 16 < i + 1 by omega)]
              · rw [if_neg hq1, if_neg (show ¬ q + 16 < i + 1 by omega)]
      have := key (d.length - 16) (by omega)
      rw [show d.length - (d.length - 16) = 16 by omega] at this
      exact this
  · -- the value
    have v1 : vf (fo6 d d.length) 16 = vf (fun q => f15 d q + ((if q = 0 then 19 * (ld d 15).tdiv 32768 else 0) + 38 * ld d (16 + q))) 16 := vf_congr 16 fun q hq => by
      unfold fo6
      have : (if q + 16 < d.length then 38 * ld d (q + 16) else 0) = 38 * ld d (16 + q) := by
        rw [Nat.add_comm 16 q]
        split
        · rfl
        · rw [ld_out d (by omega)]; rfl
      rw [this, Int.add_assoc]
    have v2 : vf (fun q => if q = 0 then 19 * (ld d 15).tdiv 32768 else 0) 16 = 19 * (ld d 15).tdiv 32768 := by
      have := vf_zero (t := fun q => if q = 0 then 19 * (ld d 15).tdiv 32768 else 0) (n := 1) 15 fun i h1 _ => if_neg (by omega)
      rw [show 1 + 15 = 16 by decide] at this
      rw [this]
      show 0 + (if 0 = 0 then 19 * (ld d 15).tdiv 32768 else 0) * 1 = _
      rw [if_pos rfl]; omega
    rw [v1, vf_add, vf_add, v2, vf_smul]
    have v3 := vf_split (ld d) 16 16
    rw [show 16 + 16 = 32 by decide] at v3
    have v4 : vf (ld d) 16 = vf (ld d) 15 + ld d 15 * 65536 ^ 15 := rfl
    have v5 : vf (f15 d) 16 = vf (ld d) 15 + (ld d 15).tmod 32768 * 65536 ^ 15 := by
      show vf (f15 d) 15 + f15 d 15 * 65536 ^ 15 = _
      have e1 : f15 d 15 = (ld d 15).tmod 32768 := upd_same _ _ _
      have e2 : vf (f15 d) 15 = vf (ld d) 15 := vf_congr 15 fun i hi => by unfold f15; exact upd_ne _ _ _ _ (by omega)
      rw [e1, e2]
    have v6 := e15
    have v7 := e16
    rw [v3, v4, v5, v7]
    generalize vf (fun q => ld d (16 + q)) 16 = U at *
    generalize (ld d 15).tdiv 32768 = hq at *
    generalize (ld d 15).tmod 32768 = rq at *
    rw [hdm, Int.add_mul, Int.mul_assoc hq, Int.mul_comm 32768, v6, Int.mul_add hq, Int.add_mul, Int.mul_add (p255 : Int), Int.mul_comm hq (p255 : Int), Int.mul_assoc 2 (p255 : Int) U, Int.mul_left_comm 2 (p255 : Int) U]
    generalize (p255 : Int) * hq = A
    generalize (p255 : Int) * (2 * U) = B
    omega
  · have hq0 : (ld d 15).tdiv 32768 = 0 := by omega
    have hU0 : vf (fun q => ld d (16 + q)) 16 = 0 := by omega
    have hz : ∀ q, q < 16 → ld d (16 + q) = 0 := fun q hq => by
      have h1 := vf_one (t := fun q => ld d (16 + q)) (n := 16) hq fun i _ => (h _).1
      have h2 := (h (16 + q)).1
      have hB : (0 : Int) < 65536 ^ q := Int.pow_pos (by decide)
      rw [hU0] at h1
      generalize (65536 : Int) ^ q = B at *
      have : ¬ 0 < ld d (16 + q) := fun hp => by
        have := Int.mul_pos hp hB; omega
      omega
    refine ⟨fun i hi => ?_, by omega⟩
    unfold fo6
    rw [hq0]
    have e1 : f15 d i = ld d i := by
      unfold f15; rw [upd_at]; split
      · rename_i hi; subst hi; omega
      · rfl
    have e2 : (if i + 16 < d.length then 38 * ld d (i + 16) else 0) = 0 := by
      rw [Nat.add_comm i 16, hz i hi]; split <;> rfl
    rw [e1, e2]; split <;> omega
end Go.Proofs.YtjblfkmmbpcpaaaDoor

/-
  PLAIN (own work): letheref06: compared, subtracted, reduced.
-/
namespace Go.Proofs.YtjblfkmmbpcpaaaDoor
set_option linter.unusedSimpArgs false
set_option linter.unusedVariables false
set_option linter.unusedSectionVars false
open Go Go.LW
set_option maxRecDepth 10000

def dg6 (t : Nat → Int) : Prop := ∀ i, i < 16 → 0 ≤ t i ∧ t i < 65536
/-- the digit that decides -/
theorem vf_cmp {a b : Nat → Int} {i : Nat} : ∀ n, (∀ q, i < q → q < n → a q = b q) → i < n → vf a n - vf b n = vf a (i + 1) - vf b (i + 1)
  | 0, _, h => absurd h (Nat.not_lt_zero _)
  | n + 1, h, hi => by
    by_cases hn : i = n
    · subst hn; rfl
    · have := vf_cmp n (fun q h1 h2 => h q h1 (by omega)) (by omega)
      show vf a n + a n * _ - (vf b n + b n * _) = _
      rw [h n (by omega) (by omega)]
      omega
theorem vf_top {a b : Nat → Int} (ha : dg6 a) (hb : dg6 b) {i : Nat} (hi : i < 16) (h : a i < b i) : vf a (i + 1) < vf b (i + 1) := by
  have h1 := vf_lt i (fun q hq => (ha q (by omega)).2)
  have h2 := vf_nonneg i (fun q hq => (hb q (by omega)).1)
  have hB : (0 : Int) < 65536 ^ i := Int.pow_pos (by decide)
  show vf a i + a i * 65536 ^ i < vf b i + b i * 65536 ^ i
  generalize (65536 : Int) ^ i = B at *
  have : (a i + 1) * B ≤ b i * B := Int.mul_le_mul_of_nonneg_right (by omega) (by omega)
  rw [Int.add_mul] at this
  omega
theorem vf_eq {a b : Nat → Int} (ha : dg6 a) (hb : dg6 b) (h : vf a 16 = vf b 16) : ∀ q, q < 16 → a q = b q := by
  have go : ∀ k, k ≤ 16 → ∀ q, 16 - k ≤ q → q < 16 → a q = b q := by
    intro k
    induction k with
    | zero => intro _ q h1 h2; omega
    | succ k ih =>
      intro hk q h1 h2
      by_cases hq : 16 - k ≤ q
      · exact ih (by omega) q hq h2
      · have hc := vf_cmp (a := a) (b := b) (i := q) 16 (fun r h3 h4 => ih (by omega) r (by omega) h4) h2
        rcases Int.lt_trichotomy (a q) (b q) with h3 | h3 | h3
        · have := vf_top ha hb h2 h3; omega
        · exact h3
        · have := vf_top hb ha h2 h3; omega
  exact fun q hq => go 16 (Nat.le_refl _) q (by omega) hq
theorem less6 {a b : Nat → Int} (ha : dg6 a) (hb : dg6 b) : letheref06_less a b (decide (vf a 16 < vf b 16)) := by
  obtain ⟨x, hI, hx⟩ := iter6 (step := letheref06_less_l0 a b (decide (vf a 16 < vf b 16)))
    (fun i : Int => ∃ k : Nat, k ≤ 16 ∧ i = 15 - (k : Int) ∧ ∀ q, 16 - k ≤ q → q < 16 → a q = b q) (fun x => x = some () → (decide (vf a 16 < vf b 16)) = false) (fun i => (i + 1).toNat) (by
    rintro i ⟨k, hk, hi, he⟩
    unfold letheref06_less_l0
    by_cases hk16 : k < 16
    · obtain ⟨j, hj, hj2⟩ : ∃ j : Nat, i.toNat = j ∧ j = 15 - k := ⟨_, rfl, by omega⟩
      rw [hj]
      by_cases hd : a j = b j
      · refine .inr ⟨i - 1, by rw [if_pos (by omega), if_neg (fun h => h hd)]; exact ⟨by omega, by omega, by omega, rfl⟩, ⟨k + 1, by omega, by omega, fun q h1 h2 => ?_⟩, by omega⟩
        by_cases hq : 16 - k ≤ q
        · exact he q hq h2
        · obtain rfl : q = j := by omega
          exact hd
      · refine .inl ⟨none, ?_, fun h => by cases h⟩
        rw [if_pos (by omega), if_pos hd]
        have hc := vf_cmp (a := a) (b := b) (i := j) 16 (fun r h3 h4 => he r (by omega) h4) (by omega)
        refine ⟨by omega, by omega, by omega, by omega, rfl, decide_eq_decide.2 ⟨fun h => ?_, fun h => ?_⟩⟩
        · rcases Int.lt_trichotomy (a j) (b j) with h3 | h3 | h3
          · exact h3
          · exact absurd h3 hd
          · have := vf_top hb ha (by omega : j < 16) h3; omega
        · have := vf_top ha hb (by omega : j < 16) h; omega
    · refine .inl ⟨some (), by rw [if_neg (by omega)], fun _ => decide_eq_false ?_⟩
      have : vf a 16 = vf b 16 := vf_congr 16 fun q hq => he q (by omega) hq
      omega) 17 15 (by decide) ⟨0, by decide, by decide, fun q h1 h2 => by omega⟩
  exact ⟨x, hI, hx⟩
/-! ### subtracted -/
def br6 (a b : Nat → Int) : Nat → Nat
  | 0 => 0
  | i + 1 => if a i - b i - (br6 a b i : Int) < 0 then 1 else 0
def bd6 (a b : Nat → Int) (i : Nat) : Int := if a i - b i - (br6 a b i : Int) < 0 then a i - b i - (br6 a b i : Int) + 65536 else a i - b i - (br6 a b i : Int)
theorem br6_le (a b : Nat → Int) : ∀ i, br6 a b i ≤ 1
  | 0 => Nat.zero_le _
  | i + 1 => by unfold br6; split <;> omega
theorem bd6_dg {a b : Nat → Int} (ha : dg6 a) (hb : dg6 b) : dg6 (bd6 a b) := fun i hi => by
  have h1 := ha i hi
  have h2 := hb i hi
  have h3 := br6_le a b i
  unfold bd6
  split <;> omega
theorem bd6_val (a b : Nat → Int) : ∀ n, vf (bd6 a b) n - (br6 a b n : Int) * 65536 ^ n = vf a n - vf b n
  | 0 => by show 0 - 0 * 1 = 0 - 0; omega
  | n + 1 => by
    have ih := bd6_val a b n
    show vf (bd6 a b) n + bd6 a b n * 65536 ^ n - (br6 a b (n + 1) : Int) * 65536 ^ (n + 1) = vf a n + a n * _ - (vf b n + b n * _)
    have e : bd6 a b n - (br6 a b (n + 1) : Int) * 65536 = a n - b n - (br6 a b n : Int) := by
      unfold bd6; rw [br6]
      split <;> omega
    rw [Int.pow_succ]
    generalize (65536 : Int) ^ n = B at *
    have h1 : (bd6 a b n - (br6 a b (n + 1) : Int) * 65536) * B = (a n - b n - (br6 a b n : Int)) * B := by rw [e]
    rw [Int.sub_mul, Int.sub_mul, Int.sub_mul, Int.mul_assoc, Int.mul_comm 65536 B] at h1
    omega
theorem minus6 {a b : Nat → Int} (ha : dg6 a) (hb : dg6 b) (h : vf b 16 ≤ vf a 16) : ∃ r, letheref06_minus a b r ∧ dg6 r ∧ vf r 16 = vf a 16 - vf b 16 := by
  have hv := bd6_val a b 16
  have hn := vf_nonneg 16 fun i hi => (bd6_dg ha hb i hi).1
  have hl := vf_lt 16 fun i hi => (bd6_dg ha hb i hi).2
  have hbr := br6_le a b 16
  have hB : (0 : Int) < 65536 ^ 16 := Int.pow_pos (by decide)
  have hb0 : br6 a b 16 = 0 := by
    generalize (65536 : Int) ^ 16 = B at *
    rcases (by omega : br6 a b 16 = 0 ∨ br6 a b 16 = 1) with h0 | h1
    · exact h0
    · rw [h1] at hv; omega
  rw [hb0] at hv
  have e0 : (fun q => if q < 16 then bd6 a b q else a q) = fun q => if q < 16 then bd6 a b q else a q := rfl
  refine ⟨fun q => if q < 16 then bd6 a b q else a q, ⟨_, ?_, rfl⟩, fun i hi => by dsimp only; rw [if_pos hi]; exact bd6_dg ha hb i hi, ?_⟩
  · have key : Iter (letheref06_minus_l0 b) (br6 a b 0, 0, fun q => if q < 0 then bd6 a b q else a q) (fun q => if q < 16 then bd6 a b q else a q) :=
      Iter.count (fun i => (br6 a b i, i, fun q => if q < i then bd6 a b q else a q)) 16 (fun i hi => by
        have h1 := ha i hi
        have h2 := hb i hi
        have h3 := br6_le a b i
        unfold letheref06_minus_l0; dsimp only
        simp only [Nat.lt_irrefl, if_false]
        rw [if_pos hi]
        refine ⟨by omega, by omega, br6 a b (i + 1), bd6 a b i, ?_, ?_⟩
        · by_cases hc : a i - b i - (br6 a b i : Int) < 0
          · rw [if_pos hc]
            exact ⟨by omega, by rw [br6, if_pos hc], by unfold bd6; rw [if_pos hc]⟩
          · rw [if_neg hc]
            exact ⟨by rw [br6, if_neg hc], by unfold bd6; rw [if_neg hc]⟩
        · have : upd (fun q => if q < i then bd6 a b q else a q) i (bd6 a b i) = fun q => if q < i + 1 then bd6 a b q else a q := by
            funext q; rw [upd_at]
            by_cases hq : q = i
            · subst hq; rw [if_pos rfl, if_pos (by omega)]
            · rw [if_neg hq]
              by_cases h4 : q < i
              · rw [if_pos h4, if_pos (by omega)]
              · rw [if_neg h4, if_neg (by omega)]
          rw [this]) (by
        unfold letheref06_minus_l0; dsimp only; rw [if_neg (by omega)])
    have z : (fun q => if q < 0 then bd6 a b q else a q) = a := by funext q; rw [if_neg (by omega)]
    rw [z] at key
    exact key
  · have : vf (fun q => if q < 16 then bd6 a b q else a q) 16 = vf (bd6 a b) 16 := vf_congr 16 fun i hi => by rw [if_pos hi]
    rw [this, ← hv]; simp
/-! ### the prime -/
def pr6 : Nat → Int := fun q => if q = 0 then 65517 else if q = 15 then 32767 else if q < 16 then 65535 else 0
theorem pr6_dg : dg6 pr6 := fun i hi => by
  unfold pr6
  by_cases h0 : i = 0
  · rw [if_pos h0]; omega
  · rw [if_neg h0]
    by_cases h1 : i = 15
    · rw [if_pos h1]; omega
    · rw [if_neg h1, if_pos hi]; omega
theorem pr6_val : vf pr6 16 = (p255 : Int) := by decide +kernel
theorem prime6 : letheref06_prime pr6 := by
  refine ⟨fun q => if q < 16 then 65535 else 0, ?_, ?_⟩
  · have z : (fun _ => (0 : Int)) = fun q => if q < 0 then 65535 else 0 := by funext q; rw [if_neg (by omega)]
    rw [z]
    refine Iter.count (fun i => (i, fun q => if q < i then 65535 else 0)) 16 (fun i hi => ?_) ?_
    · unfold letheref06_prime_l0; dsimp only
      rw [if_pos hi]
      have : upd (fun q => if q < i then 65535 else 0) i 65535 = fun q => if q < i + 1 then (65535 : Int) else 0 := by
        funext q; rw [upd_at]
        by_cases hq : q = i
        · subst hq; rw [if_pos rfl, if_pos (by omega)]
        · rw [if_neg hq]
          by_cases h4 : q < i
          · rw [if_pos h4, if_pos (by omega)]
          · rw [if_neg h4, if_neg (by omega)]
      rw [this]
    · unfold letheref06_prime_l0; dsimp only; rw [if_neg (by omega)]
  · funext q
    unfold pr6
    rw [upd_at, upd_at]
    by_cases h15 : q = 15
    · subst h15; simp
    · by_cases h0 : q = 0
      · subst h0; simp
      · simp [h15, h0]
/-! ### reduced -/
def can6 (d : List Int) : Prop := d.length = 16 ∧ (∀ i, i < 16 → ld d i < 65536) ∧ ld d 15 < 32768
theorem carries6 (d : List Int) (hl : 16 ≤ d.length) (hl2 : d.length ≤ 32) : ∃ b, letheref06_carries d b ∧ (d.length = 16 → (b = true ↔ ¬ can6 d)) := by
  by_cases hex : ∃ i, i < d.length ∧ 65536 ≤ ld d i
  · refine ⟨true, ?_, fun h => ⟨fun _ hc => ?_, fun _ => rfl⟩⟩
    · obtain ⟨x, hI, hx⟩ := iter6 (step := letheref06_carries_l0 d true) (fun i : Nat => ∀ q, q < i → ld d q < 65536) (fun x => x = none) (fun i => d.length - i) (by
        intro i hi
        unfold letheref06_carries_l0
        have hlt : i < d.length := by
          obtain ⟨q, h1, h2⟩ := hex
          rcases Nat.lt_or_ge q i with h3 | h3
          · have := hi q h3; omega
          · omega
        by_cases hc : 65536 ≤ d.getD i 0
        · exact .inl ⟨none, by rw [if_pos hlt, if_pos hc]; exact ⟨hlt, rfl, rfl⟩, rfl⟩
        · refine .inr ⟨i + 1, by rw [if_pos hlt, if_neg hc]; exact ⟨hlt, by omega, rfl⟩, fun q hq => ?_, by omega⟩
          by_cases h3 : q = i
          · subst h3; show d.getD q 0 < 65536; omega
          · exact hi q (by omega)) (d.length + 1) 0 (by omega) (fun q hq => absurd hq (Nat.not_lt_zero _))
      subst hx
      exact ⟨none, hI, fun h => by cases h⟩
    · obtain ⟨i, h1, h2⟩ := hex
      have := hc.2.1 i (by omega)
      omega
  · have hall : ∀ i, i < d.length → ld d i < 65536 := fun i hi => Int.not_le.1 fun h => hex ⟨i, hi, h⟩
    have hI : ∀ r, Iter (letheref06_carries_l0 d r) 0 (some ()) := fun r => by
      refine Iter.count (fun i => i) d.length (fun i hi => ?_) ?_
      · unfold letheref06_carries_l0
        have := hall i hi
        rw [if_pos hi, if_neg (show ¬ 65536 ≤ d.getD i 0 from Int.not_le.2 this)]
        exact ⟨hi, by omega, rfl⟩
      · unfold letheref06_carries_l0; rw [if_neg (by omega)]
    by_cases h16 : d.length = 16
    · refine ⟨decide (32768 ≤ ld d 15), ⟨_, hI _, fun _ => ?_⟩, fun _ => ?_⟩
      · rw [if_pos h16]; exact ⟨by omega, rfl⟩
      · rw [decide_eq_true_iff]
        constructor
        · intro h hc; have := hc.2.2; omega
        · intro h
          rcases Int.lt_or_le (ld d 15) 32768 with h2 | h2
          · exact absurd ⟨h16, fun i hi => hall i (by omega), h2⟩ h
          · exact h2
    · exact ⟨false, ⟨_, hI _, fun _ => by rw [if_neg h16]⟩, fun h => absurd h h16⟩
/-- a number of the field -/
def R6 (t : Nat → Int) (x : Fp) : Prop := dg6 t ∧ vf t 16 = (x.val : Int)
open Classical in
theorem reduced6 (d : List Int) (h : ∀ i, 0 ≤ ld d i ∧ ld d i ≤ 1099511627776) (h16 : 16 ≤ d.length) (h32 : d.length ≤ 32) (hV : vf (ld d) 32 < 65536 ^ 32) {x : Fp} (hx : vf (ld d) 32 % (p255 : Int) = (x.val : Int)) :
    ∃ r, letheref06_reduced d r ∧ R6 r x := by
  have hp : (0 : Int) < (p255 : Int) := by decide +kernel
  have hp2 : (32768 : Int) * 65536 ^ 15 ≤ 2 * (p255 : Int) := by decide +kernel
  obtain ⟨c, hI, hc, hc0, hcx⟩ := iter6 (step := letheref06_reduced_l0)
    (fun d : List Int => (∀ i, 0 ≤ ld d i ∧ ld d i ≤ 1099511627776) ∧ 16 ≤ d.length ∧ d.length ≤ 32 ∧ vf (ld d) 32 < 65536 ^ 32 ∧ vf (ld d) 32 % (p255 : Int) = (x.val : Int))
    (fun d => can6 d ∧ (∀ i, 0 ≤ ld d i) ∧ vf (ld d) 32 % (p255 : Int) = (x.val : Int)) (fun d => 2 * (vf (ld d) 32).toNat + (if can6 d then 0 else 1)) (by
    rintro d ⟨h1, h2, h3, h4, h5⟩
    obtain ⟨b, hb, hb2⟩ := carries6 d h2 h3
    by_cases hcan : can6 d
    · refine .inl ⟨d, ?_, hcan, fun i => (h1 i).1, h5⟩
      have hbf : b = false := by
        cases b
        · rfl
        · exact absurd hcan ((hb2 hcan.1).1 rfl)
      subst hbf
      refine ⟨false, ?_, fun h => by cases h⟩
      rw [if_neg (by have := hcan.1; omega)]
      exact ⟨false, hb, by rw [if_neg (by decide)]; exact ⟨rfl, rfl⟩⟩
    · have hok : ∀ o : List Int ⊕ List Int, (if 16 < d.length then true = true else ∃ x_112 : Bool, letheref06_carries d x_112 ∧ if x_112 = true then true = true else (true = false) ∧ o = Sum.inr d) := fun o => by
        by_cases hl : 16 < d.length
        · rw [if_pos hl]
        · rw [if_neg hl]
          refine ⟨b, hb, ?_⟩
          rw [if_pos ((hb2 (by omega)).2 hcan)]
      obtain ⟨N, n1, n2, n3, n4⟩ := carried6 d h1 h3 h4
      have hdl := cd6_lt (t := ld d) (fun i => (h1 i).1)
      generalize ht : cd6 (ld d) = t at *
      have hcl : ∀ i, 0 ≤ ld (dli N t) i ∧ ld (dli N t) i < 65536 := fun i => by
        rw [ld_dli]; split
        · exact hdl i
        · omega
      have hcv : vf (ld (dli N t)) 32 = vf (ld d) 32 := by
        rw [← n4]
        have e := vf_zero (t := ld (dli N t)) (n := N) (32 - N) fun i h7 _ => ld_out _ (by rw [dli_length]; exact h7)
        rw [show N + (32 - N) = 32 by omega] at e
        rw [e]
        exact vf_congr N fun i hi => by rw [ld_dli, if_pos hi]
      have hpos := vf_nonneg (t := ld d) 32 fun i _ => (h1 i).1
      have fold : ∃ f hi, letheref06_folded (dli N t) (dli 16 f) ∧ (∀ i, i < 16 → 0 ≤ f i ∧ f i ≤ 1099511627776) ∧ 0 ≤ hi ∧ vf f 16 = vf (ld d) 32 - (p255 : Int) * hi ∧ (hi = 0 → (∀ i, i < 16 → f i = ld (dli N t) i) ∧ ld (dli N t) 15 < 32768) := by
        have := folded6 (dli N t) hcl (by rw [dli_length]; exact n1) (by rw [dli_length]; exact n2)
        rw [hcv] at this
        exact this
      have done : ∀ f hi, (∀ i, i < 16 → 0 ≤ f i ∧ f i ≤ 1099511627776) → 0 ≤ hi → vf f 16 = vf (ld d) 32 - (p255 : Int) * hi → (hi = 0 → (∀ i, i < 16 → f i = ld (dli N t) i) ∧ ld (dli N t) 15 < 32768) →
          ((∀ i, 0 ≤ ld (dli 16 f) i ∧ ld (dli 16 f) i ≤ 1099511627776) ∧ 16 ≤ (dli 16 f).length ∧ (dli 16 f).length ≤ 32 ∧ vf (ld (dli 16 f)) 32 < 65536 ^ 32 ∧ vf (ld (dli 16 f)) 32 % (p255 : Int) = (x.val : Int)) ∧ 2 * (vf (ld (dli 16 f)) 32).toNat + (if can6 (dli 16 f) then 0 else 1) < 2 * (vf (ld d) 32).toNat + (if can6 d then 0 else 1) := by
        intro f hi g1 g2 g3 g4
        have gv : vf (ld (dli 16 f)) 32 = vf f 16 := by
          have e := vf_zero (t := ld (dli 16 f)) (n := 16) 16 fun i h7 _ => ld_out _ (by rw [dli_length]; exact h7)
          rw [show 16 + 16 = 32 by decide] at e
          rw [e]
          exact vf_congr 16 fun i hi => by rw [ld_dli, if_pos hi]
        have gp := vf_nonneg 16 fun i hi => (g1 i hi).1
        have hmul : 0 ≤ (p255 : Int) * hi := Int.mul_nonneg (by omega) g2
        rw [gv, if_neg hcan]
        refine ⟨⟨fun i => by rw [ld_dli]; split; exact g1 i (by assumption); omega, by rw [dli_length]; omega, by rw [dli_length]; omega, by omega, by rw [g3, Int.sub_mul_emod_self_left]; exact h5⟩, ?_⟩
        by_cases hz : hi = 0
        · obtain ⟨k1, k2⟩ := g4 hz
          have hcc : can6 (dli 16 f) := ⟨dli_length _ _, fun i hi => by rw [ld_dli, if_pos hi, k1 i hi]; exact (hcl i).2, by rw [ld_dli, if_pos (by decide), k1 15 (by decide)]; exact k2⟩
          rw [if_pos hcc, g3, hz, Int.mul_zero, Int.sub_zero]; omega
        · have : 0 < (p255 : Int) * hi := Int.mul_pos hp (by omega)
          have h7 : (if can6 (dli 16 f) then 0 else 1) ≤ 1 := by split <;> omega
          omega
      by_cases hN : 16 < N
      · obtain ⟨f, hi, g0, g1, g2, g3, g4⟩ := fold
        obtain ⟨d1, d2⟩ := done f hi g1 g2 g3 g4
        refine .inr ⟨dli 16 f, ⟨true, hok _, fun _ => ⟨_, n3, ?_⟩⟩, d1, d2⟩
        rw [dli_length, if_pos hN]
        exact ⟨_, g0, rfl⟩
      · obtain rfl : N = 16 := by omega
        by_cases h15 : 32768 ≤ (dli 16 t).getD 15 0
        · obtain ⟨f, hi, g0, g1, g2, g3, g4⟩ := fold
          obtain ⟨d1, d2⟩ := done f hi g1 g2 g3 g4
          refine .inr ⟨dli 16 f, ⟨true, hok _, fun _ => ⟨_, n3, ?_⟩⟩, d1, d2⟩
          rw [dli_length, if_neg hN]
          exact ⟨by decide, by rw [if_pos h15]; exact ⟨_, g0, rfl⟩⟩
        · obtain ⟨d1, d2⟩ := done t 0 (fun i hi => by have := hdl i; omega) (Int.le_refl _) (by rw [n4, Int.mul_zero, Int.sub_zero]) (fun _ => ⟨fun i hi => by rw [ld_dli, if_pos hi], by show (dli 16 t).getD 15 0 < _; omega⟩)
          refine .inr ⟨dli 16 t, ⟨true, hok _, fun _ => ⟨_, n3, ?_⟩⟩, d1, d2⟩
          rw [dli_length, if_neg hN]
          exact ⟨by decide, by rw [if_neg h15]⟩) (2 * (vf (ld d) 32).toNat + 2) d (by split <;> omega) ⟨h, h16, h32, hV, hx⟩
  -- sixteen digits
  obtain ⟨hl, hlt, h15⟩ := hc
  have hdg : dg6 (fun q => if q < 16 then ld c q else 0) := fun i hi => by dsimp only; rw [if_pos hi]; exact ⟨hc0 i, hlt i hi⟩
  have hv : vf (fun q => if q < 16 then ld c q else 0) 16 = vf (ld c) 32 := by
    have e := vf_zero (t := ld c) (n := 16) 16 fun i h7 _ => ld_out _ (by omega)
    rw [show 16 + 16 = 32 by decide] at e
    rw [e]
    exact vf_congr 16 fun i hi => by rw [if_pos hi]
  have w1 : Iter (letheref06_reduced_l1 c) (0, (fun _ => (0 : Int))) (fun q => if q < 16 then ld c q else 0) := by
    have z : (fun _ => (0 : Int)) = fun q => if q < 0 then ld c q else 0 := by funext q; rw [if_neg (by omega)]
    rw [z]
    refine Iter.count (fun i => (i, fun q => if q < i then ld c q else 0)) 16 (fun i hi => ?_) ?_
    · unfold letheref06_reduced_l1; dsimp only
      rw [if_pos (by omega)]
      have : upd (fun q => if q < i then ld c q else 0) i (c.getD i 0) = fun q => if q < i + 1 then ld c q else 0 := by
        funext q; rw [upd_at]
        by_cases hq : q = i
        · subst hq; rw [if_pos rfl, if_pos (by omega)]; rfl
        · rw [if_neg hq]
          by_cases h4 : q < i
          · rw [if_pos h4, if_pos (by omega)]
          · rw [if_neg h4, if_neg (by omega)]
      rw [this]
      exact ⟨by omega, hi, by omega, rfl⟩
    · unfold letheref06_reduced_l1; dsimp only; rw [if_neg (by omega)]
  generalize (fun q => if q < 16 then ld c q else 0) = n at *
  have hV2 : vf n 16 < 2 * (p255 : Int) := by
    have e1 : vf n 16 = vf n 15 + n 15 * 65536 ^ 15 := rfl
    have e2 := vf_lt 15 fun i hi => (hdg i (by omega)).2
    have e3 : n 15 * 65536 ^ 15 ≤ 32767 * 65536 ^ 15 := Int.mul_le_mul_of_nonneg_right (by
      have hn15 : n 15 = ld c 15 := by
        have f1 := vf_zero (t := ld c) (n := 16) 16 fun i h7 _ => ld_out _ (by omega)
        exact vf_eq hdg (fun i hi => ⟨hc0 i, hlt i hi⟩) (by rw [hv]; exact f1) 15 (by decide)
      omega) (Int.pow_nonneg (by decide))
    generalize (65536 : Int) ^ 15 = B at *
    omega
  have hn0 := vf_nonneg 16 fun i hi => (hdg i hi).1
  rw [← hv] at hcx
  have hx2 := x.isLt
  by_cases hlo : vf n 16 < (p255 : Int)
  · rw [Int.emod_eq_of_lt hn0 hlo] at hcx
    have hle := less6 hdg pr6_dg
    rw [pr6_val, decide_eq_true hlo] at hle
    exact ⟨n, ⟨c, hI, n, w1, pr6, prime6, none, Iter.done ⟨true, hle, by rw [if_pos rfl]; exact ⟨rfl, rfl⟩⟩, fun h => by cases h⟩, hdg, hcx⟩
  · obtain ⟨m, m1, m2, m3⟩ := minus6 hdg pr6_dg (by rw [pr6_val]; omega)
    rw [pr6_val] at m3
    have hle := less6 hdg pr6_dg
    rw [pr6_val, decide_eq_false hlo] at hle
    have hle2 := less6 m2 pr6_dg
    rw [pr6_val, decide_eq_true (by omega : vf m 16 < (p255 : Int))] at hle2
    have hmx : vf m 16 = (x.val : Int) := by
      have e : vf n 16 % (p255 : Int) = vf m 16 := by
        rw [show vf n 16 = vf m 16 + (p255 : Int) * 1 by omega, Int.add_mul_emod_self_left]
        exact Int.emod_eq_of_lt (by omega) (by omega)
      rw [← e]; exact hcx
    exact ⟨m, ⟨c, hI, n, w1, pr6, prime6, none, Iter.more ⟨false, hle, by rw [if_neg (by decide)]; exact ⟨m, m1, rfl⟩⟩ (Iter.done ⟨true, hle2, by rw [if_pos rfl]; exact ⟨rfl, rfl⟩⟩), fun h => by cases h⟩, m2, hmx⟩
end Go.Proofs.YtjblfkmmbpcpaaaDoor

/-
  PLAIN (own work): letheref06: sums, differences, products, bytes.
-/
namespace Go.Proofs.YtjblfkmmbpcpaaaDoor
set_option linter.unusedSimpArgs false
set_option linter.unusedVariables false
set_option linter.unusedSectionVars false
open Go Go.LW
set_option maxRecDepth 10000

theorem vf_dli {n : Nat} (hn : n ≤ 32) (f : Nat → Int) : vf (ld (dli n f)) 32 = vf f n := by
  have e := vf_zero (t := ld (dli n f)) (n := n) (32 - n) fun i h7 _ => ld_out _ (by rw [dli_length]; exact h7)
  rw [show n + (32 - n) = 32 by omega] at e
  rw [e]
  exact vf_congr n fun i hi => by rw [ld_dli, if_pos hi]
theorem red6 {n : Nat} {f : Nat → Int} (h16 : 16 ≤ n) (h32 : n ≤ 32) (h : ∀ i, i < n → 0 ≤ f i ∧ f i ≤ 1099511627776) (hV : vf f n < 65536 ^ 32) {x : Fp} (hx : vf f n % (p255 : Int) = (x.val : Int)) : ∃ r, letheref06_reduced (dli n f) r ∧ R6 r x :=
  reduced6 (dli n f) (fun i => by rw [ld_dli]; split; exact h i (by assumption); omega) (by rw [dli_length]; exact h16) (by rw [dli_length]; exact h32) (by rw [vf_dli h32]; exact hV) (by rw [vf_dli h32]; exact hx)
theorem R6.bd {t : Nat → Int} {x : Fp} (h : R6 t x) : 0 ≤ vf t 16 ∧ vf t 16 < (p255 : Int) := by
  have := x.isLt
  rw [h.2]; omega
theorem p_b32 : 4 * ((p255 : Int) * (p255 : Int)) < 65536 ^ 32 := by decide +kernel
theorem add6 {a b : Nat → Int} {x y : Fp} (ha : R6 a x) (hb : R6 b y) : ∃ r, letheref06_Add a b r ∧ R6 r (x + y) := by
  obtain ⟨r, h1, h2⟩ := red6 (n := 16) (f := fun i => a i + b i) (x := x + y) (by decide) (by decide) (fun i hi => by have := ha.1 i hi; have := hb.1 i hi; show 0 ≤ a i + b i ∧ a i + b i ≤ _; omega)
    (by
      rw [vf_add]
      have h1 := ha.bd; have h2 := hb.bd
      have h3 : 2 * (p255 : Int) < 65536 ^ 32 := by decide +kernel
      omega) (by
      rw [vf_add, ha.2, hb.2]
      show _ = (((x.val + y.val) % p255 : Nat) : Int)
      rw [Int.natCast_emod, Int.natCast_add])
  refine ⟨r, ⟨_, ?_, r, h1, rfl⟩, h2⟩
  refine Iter.count (fun i => (dli i (fun i => a i + b i), i)) 16 (fun i hi => ?_) ?_
  · have h3 := ha.1 i hi
    have h4 := hb.1 i hi
    unfold letheref06_Add_l0; dsimp only
    rw [if_pos hi, dli_length]
    refine ⟨by omega, by simp only [List.length_cons, List.length_nil]; omega, ?_⟩
    rw [← dli_append]
  · unfold letheref06_Add_l0; dsimp only; rw [if_neg (by omega)]
theorem neg6 {a : Nat → Int} {x : Fp} (ha : R6 a x) : ∃ r, letheref06_Neg a r ∧ R6 r (0 - x) := by
  have hb := ha.bd
  obtain ⟨m, m1, m2, m3⟩ := minus6 pr6_dg ha.1 (by rw [pr6_val]; omega)
  rw [pr6_val] at m3
  obtain ⟨r, h1, h2⟩ := red6 (n := 16) (f := m) (x := 0 - x) (by decide) (by decide) (fun i hi => by have := m2 i hi; omega)
    (by have h3 : 2 * (p255 : Int) < 65536 ^ 32 := by decide +kernel
        omega) (by
      rw [m3, ha.2]
      have := x.isLt
      show _ = (((p255 - x.val + (0 : Fp).val) % p255 : Nat) : Int)
      rw [Int.natCast_emod, Int.natCast_add, Int.natCast_sub (Nat.le_of_lt this)]
      show _ = ((p255 : Int) - x.val + 0) % _
      rw [Int.add_zero])
  exact ⟨r, ⟨_, prime6, m, m1, r, h1, rfl⟩, h2⟩
theorem sub6 {a b : Nat → Int} {x y : Fp} (ha : R6 a x) (hb : R6 b y) : ∃ r, letheref06_Sub a b r ∧ R6 r (x - y) := by
  obtain ⟨m, m1, m2⟩ := neg6 hb
  obtain ⟨r, h1, h2⟩ := add6 ha m2
  have e : x + (0 - y) = x - y := by grind
  rw [e] at h2
  exact ⟨r, ⟨m, m1, r, h1, rfl⟩, h2⟩
/-! ### products -/
def prow6 (c : Int) (b : Nat → Int) (i j : Nat) : Nat → Int := fun q => if i ≤ q ∧ q < i + j then c * b (q - i) else 0
theorem prow6_val (c : Int) (b : Nat → Int) (i j : Nat) : ∀ k, vf (prow6 c b i j) (i + j + k) = c * 65536 ^ i * vf b j
  | k + 1 => by
    show vf (prow6 c b i j) (i + j + k) + prow6 c b i j (i + j + k) * _ = _
    have e : prow6 c b i j (i + j + k) = 0 := by unfold prow6; rw [if_neg (by omega)]
    rw [e, Int.zero_mul, Int.add_zero]
    exact prow6_val c b i j k
  | 0 => by
    rw [Nat.add_zero]
    have low : ∀ j n, n ≤ i → vf (prow6 c b i j) n = 0 := by
      intro j n
      induction n with
      | zero => intro _; rfl
      | succ n ih =>
        intro hn
        show vf (prow6 c b i j) n + prow6 c b i j n * _ = 0
        have e : prow6 c b i j n = 0 := by unfold prow6; rw [if_neg (by omega)]
        rw [e, ih (by omega), Int.zero_mul]; rfl
    have key : ∀ j m, m ≤ j → vf (prow6 c b i j) (i + m) = c * 65536 ^ i * vf b m := by
      intro j m
      induction m with
      | zero => intro _; rw [Nat.add_zero, low j i (Nat.le_refl _)]; show 0 = c * _ * 0; rw [Int.mul_zero]
      | succ m ih =>
        intro hm
        show vf (prow6 c b i j) (i + m) + prow6 c b i j (i + m) * 65536 ^ (i + m) = c * 65536 ^ i * (vf b m + b m * 65536 ^ m)
        have e : prow6 c b i j (i + m) = c * b m := by unfold prow6; rw [if_pos (by omega)]; congr 2; omega
        rw [e, ih (by omega), Int.pow_add, Int.mul_add]
        congr 1
        ac_rfl
    exact key j j (Nat.le_refl _)
def mulM6 (a b : Nat → Int) : Nat → (Nat → Int)
  | 0 => fun _ => 0
  | i + 1 => fun q => mulM6 a b i q + prow6 (a i) b i 16 q
theorem mulM6_bd {a b : Nat → Int} (ha : dg6 a) (hb : dg6 b) : ∀ i, i ≤ 16 → ∀ q, 0 ≤ mulM6 a b i q ∧ mulM6 a b i q ≤ (i : Int) * 4294967296
  | 0, _, q => ⟨Int.le_refl _, by show (0 : Int) ≤ 0 * _; omega⟩
  | i + 1, hi, q => by
    obtain ⟨h1, h2⟩ := mulM6_bd ha hb i (by omega) q
    have h4 : 0 ≤ prow6 (a i) b i 16 q ∧ prow6 (a i) b i 16 q ≤ 4294967296 := by
      unfold prow6
      split
      · rename_i hq
        have hx := ha i (by omega)
        have hy := hb (q - i) (by omega)
        refine ⟨Int.mul_nonneg hx.1 hy.1, ?_⟩
        have := Int.mul_le_mul (show a i ≤ 65536 by omega) (show b (q - i) ≤ 65536 by omega) hy.1 (by decide)
        omega
      · exact ⟨Int.le_refl _, by decide⟩
    refine ⟨Int.add_nonneg h1 h4.1, ?_⟩
    show mulM6 a b i q + prow6 (a i) b i 16 q ≤ ((i + 1 : Nat) : Int) * 4294967296
    rw [Int.natCast_add, Int.add_mul]
    omega
theorem mulM6_val (a b : Nat → Int) : ∀ i, i ≤ 16 → vf (mulM6 a b i) 32 = vf a i * vf b 16
  | 0, _ => by
    have e : ∀ n, vf (mulM6 a b 0) n = 0 := by
      intro n
      induction n with
      | zero => rfl
      | succ n ih => show vf (mulM6 a b 0) n + 0 * _ = 0; rw [ih, Int.zero_mul]; rfl
    rw [e]; show 0 = 0 * _; rw [Int.zero_mul]
  | i + 1, hi => by
    have h1 := mulM6_val a b i (by omega)
    have h2 := prow6_val (a i) b i 16 (16 - i)
    rw [show i + 16 + (16 - i) = 32 by omega] at h2
    show vf (fun q => mulM6 a b i q + prow6 (a i) b i 16 q) 32 = (vf a i + a i * 65536 ^ i) * vf b 16
    rw [vf_add, h1, h2, Int.add_mul]
theorem mulrows6 {a b : Nat → Int} (ha : dg6 a) (hb : dg6 b) : Iter (letheref06_Mul_l0 a b) (List.replicate 32 (0 : Int), 0) (dli 32 (mulM6 a b 16)) := by
  have z : List.replicate 32 (0 : Int) = dli 32 (mulM6 a b 0) := by
    show _ = dli 32 (fun _ => 0); decide
  rw [z]
  refine Iter.count (fun i => (dli 32 (mulM6 a b i), i)) 16 (fun i hi => ?_) ?_
  · unfold letheref06_Mul_l0; dsimp only
    rw [if_pos hi]
    refine ⟨dli 32 (mulM6 a b (i + 1)), ?_, rfl⟩
    have e0 : (fun q => mulM6 a b i q + prow6 (a i) b i 0 q) = mulM6 a b i := by
      funext q; unfold prow6; rw [if_neg (by omega), Int.add_zero]
    have key : Iter (letheref06_Mul_l1 a b i) (dli 32 (fun q => mulM6 a b i q + prow6 (a i) b i 0 q), 0) (dli 32 (fun q => mulM6 a b i q + prow6 (a i) b i 16 q)) :=
      Iter.count (fun j => (dli 32 (fun q => mulM6 a b i q + prow6 (a i) b i j q), j)) 16 (fun j hj => by
        unfold letheref06_Mul_l1; dsimp only
        have e1 : prow6 (a i) b i j (i + j) = 0 := by unfold prow6; rw [if_neg (by omega)]
        have hx := ha i hi
        have hy := hb j hj
        have h1 := (mulM6_bd ha hb i (by omega) (i + j))
        have h2 := Int.mul_nonneg hx.1 hy.1
        have h3 := Int.mul_le_mul (show a i ≤ 65536 by omega) (show b j ≤ 65536 by omega) hy.1 (by decide)
        rw [if_pos hj, dli_length, dli_getD (by omega), e1, dli_set (by omega)]
        have e3 : upd (fun q => mulM6 a b i q + prow6 (a i) b i j q) (i + j) (mulM6 a b i (i + j) + 0 + a i * b j) = fun q => mulM6 a b i q + prow6 (a i) b i (j + 1) q := by
          funext q; rw [upd_at]
          by_cases hq : q = i + j
          · subst hq; rw [if_pos rfl]; unfold prow6; rw [if_pos (by omega), show i + j - i = j by omega]; omega
          · rw [if_neg hq]; unfold prow6
            by_cases h6 : i ≤ q ∧ q < i + j
            · rw [if_pos h6, if_pos (by omega)]
            · rw [if_neg h6, if_neg (by omega)]
        rw [e3]
        generalize a i * b j = z at *
        exact ⟨by omega, by omega, by omega, by omega, rfl⟩) (by
        unfold letheref06_Mul_l1; dsimp only; rw [if_neg (by omega)])
    rw [e0] at key
    exact key
  · unfold letheref06_Mul_l0; dsimp only; rw [if_neg (by omega)]
theorem mul6 {a b : Nat → Int} {x y : Fp} (ha : R6 a x) (hb : R6 b y) : ∃ r, letheref06_Mul a b r ∧ R6 r (x * y) := by
  have hv := mulM6_val a b 16 (by decide)
  have hbd := mulM6_bd ha.1 hb.1 16 (by decide)
  obtain ⟨r, h1, h2⟩ := red6 (n := 32) (f := mulM6 a b 16) (x := x * y) (by decide) (by decide) (fun i _ => by have := hbd i; omega)
    (by
      rw [hv]
      have h1 := ha.bd
      have h2 := hb.bd
      have h3 := p_b32
      have h4 := Int.mul_le_mul (Int.le_of_lt h1.2) (Int.le_of_lt h2.2) h2.1 (by omega)
      have h5 : 0 ≤ (p255 : Int) * (p255 : Int) := Int.mul_nonneg (by omega) (by omega)
      omega) (by
      rw [hv, ha.2, hb.2]
      show _ = (((x.val * y.val) % p255 : Nat) : Int)
      rw [Int.natCast_emod, Int.natCast_mul])
  exact ⟨r, ⟨_, mulrows6 ha.1 hb.1, r, h1, rfl⟩, h2⟩
theorem eqI6 {a b : Nat → Int} {x y : Fp} (ha : R6 a x) (hb : R6 b y) : eqI 16 a b = decide (x = y) := by
  rw [Bool.eq_iff_iff, eqI_iff, decide_eq_true_iff]
  constructor
  · intro h
    have := vf_congr 16 h
    rw [ha.2, hb.2] at this
    exact Fin.ext (Int.ofNat_inj.1 this)
  · rintro rfl
    exact vf_eq ha.1 hb.1 (by rw [ha.2, hb.2])
/-! ### numbers that are small -/
def in6 (N i : Nat) : Nat → Int := fun q => if q < i then ((N / 65536 ^ q % 65536 : Nat) : Int) else 0
theorem in6_val (N : Nat) : ∀ n, vf (in6 N 16) n = ((N % 65536 ^ (min n 16) : Nat) : Int)
  | 0 => by show 0 = ((N % 1 : Nat) : Int); rw [Nat.mod_one]; rfl
  | n + 1 => by
    show vf (in6 N 16) n + in6 N 16 n * 65536 ^ n = _
    rw [in6_val N n]
    by_cases hn : n < 16
    · have e : in6 N 16 n = ((N / 65536 ^ n % 65536 : Nat) : Int) := by unfold in6; rw [if_pos hn]
      rw [e, show min n 16 = n by omega, show min (n + 1) 16 = n + 1 by omega, Nat.pow_succ, Nat.mod_mul, Int.natCast_add, Int.natCast_mul, Int.natCast_pow, Int.mul_comm]
      rfl
    · have e : in6 N 16 n = 0 := by unfold in6; rw [if_neg hn]
      rw [e, show min n 16 = 16 by omega, show min (n + 1) 16 = 16 by omega, Int.zero_mul, Int.add_zero]
theorem int6 (n : BitVec 64) : ∃ r, letheref06_Int n r ∧ R6 r (ofN n.toNat) := by
  have hn := n.isLt
  have w : Iter (letheref06_Int_l0) (n, 0, (fun _ => (0 : Int))) (in6 n.toNat 4) := by
    have key : Iter (letheref06_Int_l0) (BitVec.ofNat 64 (n.toNat / 65536 ^ 0), 0, in6 n.toNat 0) (in6 n.toNat 4) :=
      Iter.count (fun i => (BitVec.ofNat 64 (n.toNat / 65536 ^ i), i, in6 n.toNat i)) 4 (fun i hi => by
        unfold letheref06_Int_l0; dsimp only
        rw [if_pos hi]
        have h1 : n.toNat / 65536 ^ i < 2 ^ 64 := Nat.lt_of_le_of_lt (Nat.div_le_self _ _) hn
        have e1 : (BitVec.ofNat 64 (n.toNat / 65536 ^ i) % 65536#64).toNat = n.toNat / 65536 ^ i % 65536 := by
          rw [BitVec.toNat_umod, BitVec.toNat_ofNat, Nat.mod_eq_of_lt h1]; rfl
        have e2 : BitVec.ofNat 64 (n.toNat / 65536 ^ i) / 65536#64 = BitVec.ofNat 64 (n.toNat / 65536 ^ (i + 1)) := by
          apply BitVec.eq_of_toNat_eq
          rw [BitVec.toNat_udiv, BitVec.toNat_ofNat, Nat.mod_eq_of_lt h1]
          show n.toNat / 65536 ^ i / 65536 = _
          rw [BitVec.toNat_ofNat, Nat.mod_eq_of_lt (Nat.lt_of_le_of_lt (Nat.div_le_self _ _) hn), Nat.pow_succ, ← Nat.div_div_eq_div_mul]
        have e3 : upd (in6 n.toNat i) i ((n.toNat / 65536 ^ i % 65536 : Nat) : Int) = in6 n.toNat (i + 1) := by
          funext q; rw [upd_at]; unfold in6
          by_cases hq : q = i
          · subst hq; rw [if_pos rfl, if_pos (by omega)]
          · rw [if_neg hq]
            by_cases h4 : q < i
            · rw [if_pos h4, if_pos (by omega)]
            · rw [if_neg h4, if_neg (by omega)]
        rw [e1, e2, e3]
        exact ⟨Nat.lt_of_lt_of_le (Nat.mod_lt _ (by decide)) (by decide), rfl⟩) (by
        unfold letheref06_Int_l0; dsimp only; rw [if_neg (by omega)])
    have z : in6 n.toNat 0 = fun _ => 0 := by funext q; unfold in6; rw [if_neg (by omega)]
    rw [z, Nat.pow_zero, Nat.div_one, BitVec.ofNat_toNat, BitVec.setWidth_eq] at key
    exact key
  have e : ∀ q, q < 16 → in6 n.toNat 4 q = in6 n.toNat 16 q := fun q hq => by
    unfold in6
    rw [if_pos hq]
    by_cases h4 : q < 4
    · rw [if_pos h4]
    · rw [if_neg h4, Nat.div_eq_of_lt (Nat.lt_of_lt_of_le hn (show 2 ^ 64 ≤ 65536 ^ q by rw [show (65536 : Nat) = 2 ^ 16 by decide, ← Nat.pow_mul]; exact Nat.pow_le_pow_right (by decide) (by omega)))]
      rfl
  refine ⟨_, ⟨_, w, rfl⟩, fun i hi => ?_, ?_⟩
  · rw [e i hi]
    unfold in6; rw [if_pos hi]
    have : n.toNat / 65536 ^ i % 65536 < 65536 := Nat.mod_lt _ (by decide)
    exact ⟨Int.natCast_nonneg _, Int.ofNat_lt.2 this⟩
  · rw [vf_congr 16 e, in6_val, show min 16 16 = 16 by decide, ofN_val, Nat.mod_eq_of_lt (Nat.lt_trans hn (by decide)), Nat.mod_eq_of_lt (Nat.lt_trans hn (by decide))]
end Go.Proofs.YtjblfkmmbpcpaaaDoor

/-
  PLAIN (own work): letheref06: bytes, powers, roots.
-/
namespace Go.Proofs.YtjblfkmmbpcpaaaDoor
set_option linter.unusedSimpArgs false
set_option linter.unusedVariables false
set_option linter.unusedSectionVars false
open Go Go.LW
set_option maxRecDepth 10000

theorem ofInt8 {z : Int} (h : 0 ≤ z ∧ z < 256) : ((BitVec.ofInt 8 z).toNat : Int) = z := by
  rw [BitVec.toNat_ofInt]; omega
/-! ### bytes -/
def by6 (t : Nat → Int) (i : Nat) : Nat → BitVec 8 := fun q => if q < 2 * i then (if q % 2 = 0 then BitVec.ofInt 8 ((t (q / 2)).tmod 256) else BitVec.ofInt 8 ((t (q / 2)).tdiv 256)) else 0#8
theorem by6_num {t : Nat → Int} (h : dg6 t) : ∀ n, n ≤ 16 → ((numB (by6 t 16) (2 * n) : Nat) : Int) = vf t n
  | 0, _ => rfl
  | n + 1, hn => by
    have ih := by6_num h n (by omega)
    have ht := h n (by omega)
    have e1 : by6 t 16 (2 * n) = BitVec.ofInt 8 ((t n).tmod 256) := by unfold by6; rw [if_pos (by omega), if_pos (by omega), show 2 * n / 2 = n by omega]
    have e2 : by6 t 16 (2 * n + 1) = BitVec.ofInt 8 ((t n).tdiv 256) := by unfold by6; rw [if_pos (by omega), if_neg (by omega), show (2 * n + 1) / 2 = n by omega]
    have m1 : 0 ≤ (t n).tmod 256 ∧ (t n).tmod 256 < 256 := by rw [Int.tmod_eq_emod_of_nonneg ht.1]; omega
    have m2 : 0 ≤ (t n).tdiv 256 ∧ (t n).tdiv 256 < 256 := by rw [Int.tdiv_eq_ediv_of_nonneg ht.1]; omega
    have m3 := Int.tmod_add_mul_tdiv (t n) 256
    show ((numB (by6 t 16) (2 * n) + (by6 t 16 (2 * n)).toNat * 256 ^ (2 * n) + (by6 t 16 (2 * n + 1)).toNat * 256 ^ (2 * n + 1) : Nat) : Int) = vf t n + t n * 65536 ^ n
    rw [e1, e2, Int.natCast_add, Int.natCast_add, Int.natCast_mul, Int.natCast_mul, ih, ofInt8 m1, ofInt8 m2, Int.natCast_pow, Int.natCast_pow]
    show vf t n + (t n).tmod 256 * 256 ^ (2 * n) + (t n).tdiv 256 * 256 ^ (2 * n + 1) = _
    rw [Int.pow_succ, show (65536 : Int) = 256 ^ 2 by decide, ← Int.pow_mul]
    generalize (256 : Int) ^ (2 * n) = B
    have : t n * B = ((t n).tmod 256 + 256 * (t n).tdiv 256) * B := by rw [m3]
    rw [this, Int.add_mul, Int.mul_comm B 256, ← Int.mul_assoc, Int.mul_comm 256 ((t n).tdiv 256)]
    omega
theorem bytes6 {t : Nat → Int} (h : dg6 t) : letheref06_Bytes t (by6 t 16) := by
  refine ⟨_, ?_, rfl⟩
  have z : (fun _ => 0#8) = by6 t 0 := by funext q; unfold by6; rw [if_neg (by omega)]
  rw [z]
  refine Iter.count (fun i => (i, by6 t i)) 16 (fun i hi => ?_) ?_
  · have ht := h i hi
    unfold letheref06_Bytes_l0; dsimp only
    rw [if_pos hi]
    refine ⟨by rw [Int.tdiv_eq_ediv_of_nonneg ht.1]; omega, ?_⟩
    have : upd (upd (by6 t i) (2 * i) (BitVec.ofInt 8 ((t i).tmod 256))) (2 * i + 1) (BitVec.ofInt 8 ((t i).tdiv 256)) = by6 t (i + 1) := by
      funext q; rw [upd_at, upd_at]; unfold by6
      by_cases h1 : q = 2 * i + 1
      · rw [if_pos h1, if_pos (show q < 2 * (i + 1) by omega), if_neg (by omega), show q / 2 = i by omega]
      · rw [if_neg h1]
        by_cases h2 : q = 2 * i
        · rw [if_pos h2, if_pos (show q < 2 * (i + 1) by omega), if_pos (by omega), show q / 2 = i by omega]
        · rw [if_neg h2]
          by_cases h3 : q < 2 * i
          · rw [if_pos h3, if_pos (show q < 2 * (i + 1) by omega)]
          · rw [if_neg h3, if_neg (show ¬ q < 2 * (i + 1) by omega)]
    rw [this]
  · unfold letheref06_Bytes_l0; dsimp only; rw [if_neg (by omega)]
theorem bytes6_num {t : Nat → Int} {x : Fp} (h : R6 t x) : numB (by6 t 16) 32 = x.val := by
  have := by6_num h.1 16 (by decide)
  rw [h.2] at this
  exact Int.ofNat_inj.1 this
/-- two bytes a digit -/
def di6 (b : Nat → BitVec 8) : Nat → Int := fun q => (((b (2 * q)).toNat + 256 * (b (2 * q + 1)).toNat : Nat) : Int)
theorem di6_dg (b : Nat → BitVec 8) : ∀ i, 0 ≤ di6 b i ∧ di6 b i < 65536 := fun i => by
  have h1 := (b (2 * i)).isLt
  have h2 := (b (2 * i + 1)).isLt
  unfold di6
  omega
theorem di6_val (b : Nat → BitVec 8) : ∀ n, vf (di6 b) n = ((numB b (2 * n) : Nat) : Int)
  | 0 => rfl
  | n + 1 => by
    show vf (di6 b) n + di6 b n * 65536 ^ n = ((numB b (2 * n) + (b (2 * n)).toNat * 256 ^ (2 * n) + (b (2 * n + 1)).toNat * 256 ^ (2 * n + 1) : Nat) : Int)
    rw [di6_val b n, Int.natCast_add, Int.natCast_add, Int.natCast_mul, Int.natCast_mul, Int.natCast_pow, Int.natCast_pow]
    unfold di6
    show _ + _ = _ + ((b (2 * n)).toNat : Int) * 256 ^ (2 * n) + ((b (2 * n + 1)).toNat : Int) * 256 ^ (2 * n + 1)
    rw [Int.pow_succ, show (65536 : Int) = 256 ^ 2 by decide, ← Int.pow_mul, Int.natCast_add, Int.natCast_mul]
    generalize (256 : Int) ^ (2 * n) = B
    generalize (((b (2 * n)).toNat : Nat) : Int) = u
    generalize (((b (2 * n + 1)).toNat : Nat) : Int) = v
    show _ + (u + 256 * v) * B = _
    rw [Int.add_mul, Int.mul_comm B 256, ← Int.mul_assoc v, Int.mul_comm v 256]
    omega
theorem from6 (b : Nat → BitVec 8) : ∃ r, letheref06_From b r ∧ R6 r (ofB b) := by
  have h15 := di6_dg b 15
  have hv : vf (upd (di6 b) 15 ((di6 b 15).tmod 32768)) 16 = ((numB b 32 % 2 ^ 255 : Nat) : Int) := by
    have e1 : vf (upd (di6 b) 15 ((di6 b 15).tmod 32768)) 16 = vf (di6 b) 15 + (di6 b 15).tmod 32768 * 65536 ^ 15 := by
      show vf (upd (di6 b) 15 ((di6 b 15).tmod 32768)) 15 + upd (di6 b) 15 ((di6 b 15).tmod 32768) 15 * 65536 ^ 15 = _
      rw [upd_same, vf_congr 15 (fun i hi => (upd_ne (di6 b) 15 _ i (by omega)))]
    have e2 : vf (di6 b) 16 = vf (di6 b) 15 + di6 b 15 * 65536 ^ 15 := rfl
    have e3 := di6_val b 16
    have e4 : di6 b 15 = (di6 b 15).tmod 32768 + (di6 b 15).tdiv 32768 * 32768 := by
      have := Int.tmod_add_mul_tdiv (di6 b 15) 32768
      omega
    have e5 : (2 : Int) ^ 255 = 32768 * 65536 ^ 15 := by decide +kernel
    have e6 := vf_lt 15 fun i _ => (di6_dg b i).2
    have e7 := vf_nonneg 15 fun i _ => (di6_dg b i).1
    have e8 : 0 ≤ (di6 b 15).tmod 32768 ∧ (di6 b 15).tmod 32768 < 32768 := by rw [Int.tmod_eq_emod_of_nonneg h15.1]; omega
    have hB : (0 : Int) < 65536 ^ 15 := Int.pow_pos (by decide)
    rw [e1, Int.natCast_emod, Int.natCast_pow]
    show _ = ((numB b (2 * 16) : Nat) : Int) % 2 ^ 255
    rw [← e3, e2, e5]
    generalize (65536 : Int) ^ 15 = B at *
    generalize (di6 b 15).tmod 32768 = m at *
    generalize (di6 b 15).tdiv 32768 = k at *
    have e9 : vf (di6 b) 15 + di6 b 15 * B = vf (di6 b) 15 + m * B + 32768 * B * k := by
      rw [e4, Int.add_mul]
      have : k * 32768 * B = 32768 * B * k := by ac_rfl
      omega
    have e10 : m * B ≤ 32767 * B := Int.mul_le_mul_of_nonneg_right (by omega) (by omega)
    have e11 : 0 ≤ m * B := Int.mul_nonneg e8.1 (by omega)
    rw [e9, Int.add_mul_emod_self_left, Int.emod_eq_of_lt (by omega) (by omega)]
  obtain ⟨r, h1, h2⟩ := red6 (n := 16) (f := upd (di6 b) 15 ((di6 b 15).tmod 32768)) (x := ofB b) (by decide) (by decide) (fun i _ => by
      have := di6_dg b i
      rw [upd_at]; split
      · rw [Int.tmod_eq_emod_of_nonneg h15.1]; omega
      · omega)
    (by
      rw [hv]
      have h3 : (2 : Int) ^ 255 < 65536 ^ 32 := by decide +kernel
      have h4 : numB b 32 % 2 ^ 255 < 2 ^ 255 := Nat.mod_lt _ (Nat.pow_pos (by decide))
      have h5 : ((numB b 32 % 2 ^ 255 : Nat) : Int) < ((2 ^ 255 : Nat) : Int) := Int.ofNat_lt.2 h4
      rw [Int.natCast_pow] at h5
      exact Int.lt_trans h5 h3) (by
      rw [hv]
      exact (Int.natCast_emod (numB b 32 % 2 ^ 255) p255).symm)
  refine ⟨r, ⟨dli 16 (di6 b), ?_, by rw [dli_length]; decide, by rw [dli_length]; decide, r, ?_, rfl⟩, h2⟩
  · refine Iter.count (fun i => (dli i (di6 b), i)) 16 (fun i hi => ?_) ?_
    · unfold letheref06_From_l0; dsimp only
      rw [if_pos hi, dli_length]
      refine ⟨by simp only [List.length_cons, List.length_nil]; omega, ?_⟩
      rw [← dli_append]; rfl
    · unfold letheref06_From_l0; dsimp only; rw [if_neg (by omega)]
  · rw [dli_getD (by decide), dli_set (by decide)]
    exact h1
theorem fits6 (b : Nat → BitVec 8) : letheref06_Fits b (decide (numB b 32 < p255)) := by
  have hdg : dg6 (fun q => if q < 16 then di6 b q else 0) := fun i hi => by dsimp only; rw [if_pos hi]; exact di6_dg b i
  have hl := less6 hdg pr6_dg
  have hv : vf (fun q => if q < 16 then di6 b q else 0) 16 = ((numB b 32 : Nat) : Int) := by
    rw [vf_congr 16 (fun i hi => if_pos hi)]; exact di6_val b 16
  rw [hv, pr6_val] at hl
  have e : decide (((numB b 32 : Nat) : Int) < (p255 : Int)) = decide (numB b 32 < p255) := decide_eq_decide.2 Int.ofNat_lt
  rw [e] at hl
  refine ⟨fun q => if q < 16 then di6 b q else 0, ?_, pr6, prime6, _, hl, rfl⟩
  have z : (fun _ => (0 : Int)) = fun q => if q < 0 then di6 b q else 0 := by funext q; rw [if_neg (by omega)]
  rw [z]
  refine Iter.count (fun i => (i, fun q => if q < i then di6 b q else 0)) 16 (fun i hi => ?_) ?_
  · unfold letheref06_Fits_l0; dsimp only
    rw [if_pos hi]
    have : upd (fun q => if q < i then di6 b q else 0) i (di6 b i) = fun q => if q < i + 1 then di6 b q else 0 := by
      funext q; rw [upd_at]
      by_cases hq : q = i
      · subst hq; rw [if_pos rfl, if_pos (by omega)]
      · rw [if_neg hq]
        by_cases h4 : q < i
        · rw [if_pos h4, if_pos (by omega)]
        · rw [if_neg h4, if_neg (by omega)]
    rw [← this]; rfl
  · unfold letheref06_Fits_l0; dsimp only; rw [if_neg (by omega)]
/-! ### powers -/
theorem pow6 {a : Nat → Int} {x : Fp} (ha : R6 a x) (n : Nat → BitVec 8) : ∃ r, letheref06_Pow a n r ∧ R6 r (x ^ numB n 32) := by
  obtain ⟨o, ho, hO⟩ := int6 1#64
  obtain ⟨r, hI, hQ⟩ := iter6 (step := letheref06_Pow_l0 a n)
    (fun s : Int × (Nat → Int) => ∃ i : Nat, i ≤ 256 ∧ s.1 = 255 - (i : Int) ∧ R6 s.2 (x ^ (numB n 32 / 2 ^ (256 - i)))) (fun r => R6 r (x ^ numB n 32)) (fun s => (s.1 + 1).toNat) (by
    rintro ⟨t, m⟩ ⟨i, hi, ht, hm⟩
    dsimp only at ht hm
    unfold letheref06_Pow_l0
    dsimp only
    by_cases h : i < 256
    · obtain ⟨m2, h1, h2⟩ := mul6 hm hm
      rw [← fpow_add] at h2
      obtain ⟨k, hk, hk2⟩ : ∃ k : Nat, t = (k : Int) ∧ k = 255 - i := ⟨255 - i, by omega, rfl⟩
      subst hk
      have d1 : ((k : Int).tdiv 8) = ((k / 8 : Nat) : Int) := by rw [Int.tdiv_eq_ediv_of_nonneg (by omega)]; omega
      have d2 : ((k : Int).tmod 8) = ((k % 8 : Nat) : Int) := by rw [Int.tmod_eq_emod_of_nonneg (by omega)]; omega
      have hb := bitN_iff n (t := k) (by omega)
      have hd : numB n 32 / 2 ^ (256 - i) = numB n 32 / 2 ^ k / 2 := by rw [show 256 - i = k + 1 by omega, Nat.pow_succ, Nat.div_div_eq_div_mul]
      rw [hd] at h2
      have e : 256 - (i + 1) = k := by omega
      generalize hM : numB n 32 / 2 ^ k = M at hb h2
      by_cases hbit : bitN n k
      · have hb1 := hb.1 hbit
        obtain ⟨m3, h3, h4⟩ := mul6 h2 ha
        have e3 : x ^ (M / 2 + M / 2) * x = x ^ M := by
          rw [show M = (M / 2 + M / 2) + 1 by omega, fpow_add x _ 1, show (M / 2 + M / 2 + 1) / 2 = M / 2 by omega]
          generalize x ^ (M / 2 + M / 2) = y; grind
        rw [e3] at h4
        refine .inr ⟨((k : Int) - 1, m3), ?_, ⟨i + 1, by omega, by dsimp only; omega, by rw [e, hM]; exact h4⟩, by dsimp only; omega⟩
        rw [if_pos (by omega), d1, d2, Int.toNat_natCast, Int.toNat_natCast]
        refine ⟨m2, h1, by omega, by omega, by omega, ?_⟩
        rw [if_pos (show ((n (k / 8)) >>> (k % 8)) &&& 1#8 = 1#8 from hbit)]
        exact ⟨m3, h3, by omega, rfl⟩
      · have hb0 : M % 2 = 0 := by
          have : ¬ M % 2 = 1 := fun h2 => hbit (hb.2 h2)
          omega
        rw [show M / 2 + M / 2 = M by omega] at h2
        refine .inr ⟨((k : Int) - 1, m2), ?_, ⟨i + 1, by omega, by dsimp only; omega, by rw [e, hM]; exact h2⟩, by dsimp only; omega⟩
        rw [if_pos (by omega), d1, d2, Int.toNat_natCast, Int.toNat_natCast]
        refine ⟨m2, h1, by omega, by omega, by omega, ?_⟩
        rw [if_neg (show ¬ ((n (k / 8)) >>> (k % 8)) &&& 1#8 = 1#8 from hbit)]
        exact ⟨by omega, rfl⟩
    · obtain rfl : i = 256 := by omega
      refine .inl ⟨m, by rw [if_neg (by omega)], ?_⟩
      rw [show 256 - 256 = 0 by omega, Nat.pow_zero, Nat.div_one] at hm
      exact hm) 257 (255, o) (by show (256 : Int).toNat < 257; decide) ⟨0, by decide, rfl, by
        have h := numB_lt n 32
        rw [Nat.div_eq_of_lt (by rw [show (2 : Nat) ^ (256 - 0) = 256 ^ 32 by decide +kernel]; exact h), fpow_zero]
        exact hO⟩
  exact ⟨r, ⟨o, ho, r, hI, rfl⟩, hQ⟩
theorem inv6 {a : Nat → Int} {x : Fp} (ha : R6 a x) : ∃ r, letheref06_Inv a r ∧ R6 r (invN x) := by
  obtain ⟨t, h1, h2⟩ := int6 2#64
  have hp2 : (ofN (2#64 : BitVec 64).toNat : Fp).val = 2 := by decide +kernel
  obtain ⟨m, m1, m2, m3⟩ := minus6 pr6_dg h2.1 (by rw [pr6_val, h2.2, hp2]; decide +kernel)
  rw [pr6_val, h2.2, hp2] at m3
  have hn := by6_num m2 16 (by decide)
  rw [m3] at hn
  obtain ⟨r, r1, r2⟩ := pow6 ha (by6 m 16)
  have e : numB (by6 m 16) 32 = p255 - 2 := by
    have h3 : 2 ≤ p255 := by decide
    have h4 : ((numB (by6 m 16) (2 * 16) : Nat) : Int) = ((p255 - 2 : Nat) : Int) := by rw [hn, Int.natCast_sub h3]
    exact Int.ofNat_inj.1 h4
  rw [e] at r2
  exact ⟨r, ⟨_, ⟨pr6, prime6, t, h1, m, m1, _, bytes6 m2, rfl⟩, r, r1, rfl⟩, r2⟩
/-! ### roots -/
def ff6 (i : Nat) : Nat → BitVec 8 := fun q => if q < i then 255#8 else 0#8
theorem ff6_step (i : Nat) : upd (ff6 i) i 255#8 = ff6 (i + 1) := by
  funext q; rw [upd_at]; unfold ff6
  by_cases hq : q = i
  · subst hq; rw [if_pos rfl, if_pos (by omega)]
  · rw [if_neg hq]
    by_cases h4 : q < i
    · rw [if_pos h4, if_pos (by omega)]
    · rw [if_neg h4, if_neg (by omega)]
theorem ff6_zero : (fun _ => 0#8) = ff6 0 := by funext q; unfold ff6; rw [if_neg (by omega)]
theorem ffa6 : Iter (letheref06_Sqrt_l0) (0, (fun _ => 0#8)) (ff6 32) := by
  rw [ff6_zero]
  refine Iter.count (fun i => (i, ff6 i)) 32 (fun i hi => ?_) ?_
  · unfold letheref06_Sqrt_l0; dsimp only; rw [if_pos hi, ff6_step]
  · unfold letheref06_Sqrt_l0; dsimp only; rw [if_neg (by omega)]
theorem ffb6 : Iter (letheref06_Sqrt_l1) (0, (fun _ => 0#8)) (ff6 32) := by
  rw [ff6_zero]
  refine Iter.count (fun i => (i, ff6 i)) 32 (fun i hi => ?_) ?_
  · unfold letheref06_Sqrt_l1; dsimp only; rw [if_pos hi, ff6_step]
  · unfold letheref06_Sqrt_l1; dsimp only; rw [if_neg (by omega)]
theorem up6 : numB (upd (upd (ff6 32) 0 254#8) 31 15#8) 32 = (p255 + 3) / 8 := by decide +kernel
theorem im6 : numB (upd (upd (ff6 32) 0 251#8) 31 31#8) 32 = (p255 - 1) / 4 := by decide +kernel
theorem vf_even {t : Nat → Int} : ∀ n, vf t (n + 1) % 2 = t 0 % 2
  | 0 => by show (0 + t 0 * 1) % 2 = _; rw [Int.mul_one, Int.zero_add]
  | n + 1 => by
    show (vf t (n + 1) + t (n + 1) * 65536 ^ (n + 1)) % 2 = _
    rw [Int.pow_succ, show t (n + 1) * (65536 ^ n * 65536) = 2 * (t (n + 1) * (65536 ^ n * 32768)) by
      have : (65536 : Int) ^ n * 65536 = 2 * (65536 ^ n * 32768) := by omega
      rw [this, Int.mul_left_comm], Int.add_mul_emod_self_left]
    exact vf_even n
theorem sqrt6 {a : Nat → Int} {x : Fp} (ha : R6 a x) : ∃ r, letheref06_Sqrt a (r, decide (rawN x * rawN x = x)) ∧ R6 r (rootN x) := by
  obtain ⟨c, c1, c2⟩ := pow6 ha (upd (upd (ff6 32) 0 254#8) 31 15#8)
  rw [up6] at c2
  replace c2 : R6 c (candN x) := c2
  obtain ⟨cc, cc1, cc2⟩ := mul6 c2 c2
  have hcc := eqI6 cc2 ha
  obtain ⟨m, hm, hR⟩ : ∃ m, (∃ x_97 : Nat → Int, letheref06_Mul c c x_97 ∧
    if (eqI 16 x_97 a) = true then (m = c) else (
      ∃ m119 : Nat → BitVec 8, Iter (letheref06_Sqrt_l1) (0, (fun _ => 0#8)) m119 ∧
      ∃ x_135 : Nat → Int, letheref06_Int (2#64) x_135 ∧
      ∃ x_138 : Nat → Int, letheref06_Pow x_135 (upd (upd m119 0 (251#8)) 31 (31#8)) x_138 ∧
      ∃ x_141 : Nat → Int, letheref06_Mul c x_138 x_141 ∧ m = x_141)) ∧ R6 m (rawN x) := by
    unfold rawN
    by_cases hq : candN x * candN x = x
    · exact ⟨c, ⟨cc, cc1, by rw [hcc, if_pos (decide_eq_true hq)]⟩, by rw [if_pos hq]; exact c2⟩
    · obtain ⟨t, t1, t2⟩ := int6 2#64
      obtain ⟨j, j1, j2⟩ := pow6 t2 (upd (upd (ff6 32) 0 251#8) 31 31#8)
      rw [im6, show (2#64 : BitVec 64).toNat = 2 by decide, im_pow] at j2
      obtain ⟨m, m1, m2⟩ := mul6 c2 j2
      refine ⟨m, ⟨cc, cc1, ?_⟩, by rw [if_neg hq]; exact m2⟩
      rw [hcc, if_neg (fun h => hq (of_decide_eq_true h))]
      exact ⟨_, ffb6, t, t1, j, j1, m, m1, rfl⟩
  obtain ⟨mm, mm1, mm2⟩ := mul6 hR hR
  have hmm := eqI6 mm2 ha
  by_cases hq : rawN x * rawN x = x
  · have hpar : ((m 0).tmod 2 = 1) ↔ (rawN x).val % 2 = 1 := by
      have h0 := hR.1 0 (by decide)
      have h1 := vf_even (t := m) 15
      rw [show 15 + 1 = 16 by decide, hR.2] at h1
      rw [Int.tmod_eq_emod_of_nonneg h0.1]
      omega
    by_cases hodd : (m 0).tmod 2 = 1
    · obtain ⟨g, g1, g2⟩ := neg6 hR
      refine ⟨g, ⟨_, ffa6, c, c1, m, hm, mm, mm1, ?_⟩, ?_⟩
      · rw [hmm, if_pos (decide_eq_true hq), decide_eq_true hq]
        exact ⟨g, by rw [if_pos hodd]; exact ⟨g, g1, rfl⟩, rfl⟩
      · unfold rootN evenN; rw [if_pos hq, if_pos (hpar.1 hodd)]; exact g2
    · refine ⟨m, ⟨_, ffa6, c, c1, m, hm, mm, mm1, ?_⟩, ?_⟩
      · rw [hmm, if_pos (decide_eq_true hq), decide_eq_true hq]
        exact ⟨m, by rw [if_neg hodd], rfl⟩
      · unfold rootN evenN; rw [if_pos hq, if_neg (fun h => hodd (hpar.2 h))]; exact hR
  · refine ⟨fun _ => 0, ⟨_, ffa6, c, c1, m, hm, mm, mm1, ?_⟩, ?_⟩
    · rw [hmm, if_neg (fun h => hq (of_decide_eq_true h)), decide_eq_false hq]
    · unfold rootN; rw [if_neg hq]
      exact ⟨fun i _ => ⟨Int.le_refl _, show (0 : Int) < 65536 by decide⟩, by decide +kernel⟩
end Go.Proofs.YtjblfkmmbpcpaaaDoor
