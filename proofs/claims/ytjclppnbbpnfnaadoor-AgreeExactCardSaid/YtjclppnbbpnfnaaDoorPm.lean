import Derived.Test.YtjclppnbbpnfnaaDoorRField
import Derived.Test.YtjclppnbbpnfnaaDoorFldT
import Derived.Test.YtjclppnbbpnfnaaDoorRCurve
import Derived.Test.YtjclppnbbpnfnaaDoorRSha
import Derived.Test.YtjclppnbbpnfnaaDoorRKdf
import Derived.Test.YtjclppnbbpnfnaaDoorRLaw17
import Derived.Test.YtjclppnbbpnfnaaDoorRRef02
import Derived.Test.YtjclppnbbpnfnaaDoorRRef03
import Derived.Test.YtjclppnbbpnfnaaDoorRRef07
namespace Go.Proofs.YtjclppnbbpnfnaaDoor
set_option linter.unusedSimpArgs false
set_option linter.unusedVariables false
set_option linter.unusedSectionVars false
open Go Go.LW
def numB (b : Nat → BitVec 8) : Nat → Nat
 | 0 => 0
 | n + 1 => numB b n + (b n).toNat * 256 ^ n
theorem numB_lt (b : Nat → BitVec 8) : ∀ n, numB b n < 256 ^ n
 | 0 => by simp [numB]
 | n + 1 => by
   have h := numB_lt b n
   have hb := (b n).isLt
   show numB b n + (b n).toNat * 256 ^ n < 256 ^ (n + 1)
   rw [Nat.pow_succ]
   have : (b n).toNat * 256 ^ n ≤ 255 * 256 ^ n := Nat.mul_le_mul_right _ (by omega)
   omega
theorem numB_split (b : Nat → BitVec 8) (i : Nat) : ∀ n, numB b (i + n) = numB b i + 256 ^ i * numB (fun q => b (i + q)) n
 | 0 => by simp [numB]
 | n + 1 => by
   show numB b (i + n) + (b (i + n)).toNat * 256 ^ (i + n) = numB b i + 256 ^ i * (numB (fun q => b (i + q)) n + (b (i + n)).toNat * 256 ^ n)
   rw [numB_split b i n, Nat.pow_add, Nat.mul_add, ← Nat.add_assoc, Nat.mul_left_comm]
theorem numB_div (b : Nat → BitVec 8) (i n : Nat) : numB b (i + n) / 256 ^ i = numB (fun q => b (i + q)) n := by
 rw [numB_split, Nat.add_mul_div_left _ _ (Nat.pow_pos (by decide)), Nat.div_eq_of_lt (numB_lt b i), Nat.zero_add]
theorem numB_mod (b : Nat → BitVec 8) (i n : Nat) : numB b (i + n) % 256 ^ i = numB b i := by
 rw [numB_split, Nat.add_mul_mod_self_left, Nat.mod_eq_of_lt (numB_lt b i)]
def wd (b : Nat → BitVec 8) (i : Nat) : Nat → BitVec 64
 | 0 => 0#64
 | j + 1 => (wd b i j <<< 8) ||| ((b (i + 7 - j)).setWidth 64)
def wN (b : Nat → BitVec 8) (i : Nat) : Nat → Nat
 | 0 => 0
 | j + 1 => wN b i j * 256 + (b (i + 7 - j)).toNat
theorem wN_lt (b : Nat → BitVec 8) (i : Nat) : ∀ j, wN b i j < 256 ^ j
 | 0 => by simp [wN]
 | j + 1 => by
   have h := wN_lt b i j
   have hb := (b (i + 7 - j)).isLt
   show wN b i j * 256 + _ < 256 ^ (j + 1)
   rw [Nat.pow_succ]; omega
theorem wd_toNat (b : Nat → BitVec 8) (i : Nat) : ∀ j, j ≤ 8 → (wd b i j).toNat = wN b i j
 | 0, _ => rfl
 | j + 1, h => by
   have ih := wd_toNat b i j (by omega)
   have hl := wN_lt b i j
   have hp : 256 ^ j ≤ 256 ^ 7 := Nat.pow_le_pow_right (by decide) (by omega)
   have h56 : wN b i j < 2 ^ 56 := Nat.lt_of_lt_of_le hl (Nat.le_trans hp (by decide))
   have hb := (b (i + 7 - j)).isLt
   show ((wd b i j <<< 8) ||| ((b (i + 7 - j)).setWidth 64)).toNat = wN b i j * 256 + (b (i + 7 - j)).toNat
   rw [BitVec.toNat_or, BitVec.toNat_shiftLeft, BitVec.toNat_setWidth, ih, Nat.shiftLeft_eq, Nat.mod_eq_of_lt (by omega), Nat.mod_eq_of_lt (by omega)]
   have := Nat.two_pow_add_eq_or_of_lt (i := 8) (b := (b (i + 7 - j)).toNat) (by omega) (wN b i j)
   rw [show wN b i j * 2 ^ 8 = 2 ^ 8 * wN b i j by omega, ← this]
theorem word_ok (b : Nat → BitVec 8) {i : Nat} (hi : i ≤ 24) : field_word b (i : Int) (wd b i 8) := by
 refine ⟨_, ?_, rfl⟩
 refine Iter.count (fun j => (wd b i j, 7 - (j : Int))) 8 (fun j hj => ?_) ?_
 · unfold field_word_l0; dsimp only
   rw [if_pos (by omega)]
   refine ⟨by omega, by omega, by omega, ?_⟩
   rw [show ((i : Int) + (7 - (j : Int))).toNat = i + 7 - j by omega, show (7 : Int) - (j : Int) - 1 = 7 - ((j + 1 : Nat) : Int) by omega]
   rfl
 · unfold field_word_l0; dsimp only
   rw [if_neg (by omega)]
theorem word_num (b : Nat → BitVec 8) {i : Nat} (hi : i ≤ 24) : (wd b i 8).toNat = numB b 32 / 256 ^ i % 2 ^ 64 := by
 rw [wd_toNat b i 8 (Nat.le_refl _)]
 have h := numB_div b i (32 - i)
 rw [show i + (32 - i) = 32 by omega] at h
 rw [h]
 have h2 := numB_mod (fun q => b (i + q)) 8 (24 - i)
 rw [show 8 + (24 - i) = 32 - i by omega] at h2
 rw [show (2 : Nat) ^ 64 = 256 ^ 8 by decide, h2]
 simp only [wN, numB, show i + 7 - 0 = i + 7 by omega, show i + 7 - 1 = i + 6 by omega, show i + 7 - 2 = i + 5 by omega, show i + 7 - 3 = i + 4 by omega, show i + 7 - 4 = i + 3 by omega, show i + 7 - 5 = i + 2 by omega, show i + 7 - 6 = i + 1 by omega, show i + 7 - 7 = i + 0 by omega]
 omega
abbrev F5 := Nat → BitVec 64
def val (l : F5) : Nat := (l 0).toNat + (l 1).toNat * 2 ^ 51 + (l 2).toNat * 2 ^ 102 + (l 3).toNat * 2 ^ 153 + (l 4).toNat * 2 ^ 204
def Bnd (B : Nat) (l : F5) : Prop := ∀ i, i < 5 → (l i).toNat < B
theorem mask_toNat (x : BitVec 64) : (x &&& 2251799813685247#64).toNat = x.toNat % 2 ^ 51 := by
 rw [BitVec.toNat_and, show (2251799813685247#64).toNat = 2 ^ 51 - 1 by decide, Nat.and_two_pow_sub_one_eq_mod]
theorem shr_toNat (x : BitVec 64) (s : Nat) : (x >>> s).toNat = x.toNat / 2 ^ s := by rw [BitVec.toNat_ushiftRight, Nat.shiftRight_eq_div_pow]
def readF (b : Nat → BitVec 8) : F5 := lit [wd b 0 8 &&& 2251799813685247#64, (wd b 6 8 >>> 3) &&& 2251799813685247#64, (wd b 12 8 >>> 6) &&& 2251799813685247#64, (wd b 19 8 >>> 1) &&& 2251799813685247#64, (wd b 24 8 >>> 12) &&& 2251799813685247#64]
theorem read_ok (b : Nat → BitVec 8) : field_Read b (readF b) :=
 ⟨_, word_ok b (i := 0) (by omega), _, word_ok b (i := 6) (by omega), _, word_ok b (i := 12) (by omega), _, word_ok b (i := 19) (by omega), _, word_ok b (i := 24) (by omega), rfl⟩
theorem readF_bnd (b : Nat → BitVec 8) : Bnd (2 ^ 51) (readF b) := fun i hi => by
 rcases (by omega : i = 0 ∨ i = 1 ∨ i = 2 ∨ i = 3 ∨ i = 4) with rfl | rfl | rfl | rfl | rfl <;> (show (_ &&& 2251799813685247#64 : BitVec 64).toNat < _; rw [mask_toNat]; omega)
theorem readF_val (b : Nat → BitVec 8) : val (readF b) = numB b 32 % 2 ^ 255 := by
 unfold val
 have h0 : (readF b 0).toNat = numB b 32 % 2 ^ 51 := by
   show (wd b 0 8 &&& 2251799813685247#64).toNat = _
   rw [mask_toNat, word_num b (by omega)]; omega
 have h1 : (readF b 1).toNat = numB b 32 / 2 ^ 51 % 2 ^ 51 := by
   show ((wd b 6 8 >>> 3) &&& 2251799813685247#64).toNat = _
   rw [mask_toNat, shr_toNat, word_num b (by omega)]; omega
 have h2 : (readF b 2).toNat = numB b 32 / 2 ^ 102 % 2 ^ 51 := by
   show ((wd b 12 8 >>> 6) &&& 2251799813685247#64).toNat = _
   rw [mask_toNat, shr_toNat, word_num b (by omega)]; omega
 have h3 : (readF b 3).toNat = numB b 32 / 2 ^ 153 % 2 ^ 51 := by
   show ((wd b 19 8 >>> 1) &&& 2251799813685247#64).toNat = _
   rw [mask_toNat, shr_toNat, word_num b (by omega)]; omega
 have h4 : (readF b 4).toNat = numB b 32 / 2 ^ 204 % 2 ^ 51 := by
   show ((wd b 24 8 >>> 12) &&& 2251799813685247#64).toNat = _
   rw [mask_toNat, shr_toNat, word_num b (by omega)]; omega
 rw [h0, h1, h2, h3, h4]
 omega
end Go.Proofs.YtjclppnbbpnfnaaDoor
namespace Go.Proofs.YtjclppnbbpnfnaaDoor
set_option linter.unusedSimpArgs false
set_option linter.unusedVariables false
set_option linter.unusedSectionVars false
open Go Go.LW
def p255 : Nat := 2 ^ 255 - 19
def carC (l : F5) : Nat → BitVec 64
 | 0 => 0#64
 | i + 1 => (l i + carC l i) >>> 51
def carM (l : F5) (i : Nat) : F5 := fun q => if q < i then (l q + carC l q) &&& 2251799813685247#64 else l q
def carF (l : F5) : F5 := upd (carM l 5) 0 (carM l 5 0 + 19#64 * carC l 5)
theorem carM_succ (l : F5) (i : Nat) : upd (upd (carM l i) i (carM l i i + carC l i)) i ((upd (carM l i) i (carM l i i + carC l i)) i &&& 2251799813685247#64) = carM l (i + 1) := by
 funext q
 rw [upd_at, upd_same, upd_at]
 unfold carM
 by_cases h : q = i
 · subst h; rw [if_pos rfl, if_neg (by omega), if_pos (by omega)]
 · rw [if_neg h, if_neg h]
   by_cases h2 : q < i
   · rw [if_pos h2, if_pos (by omega)]
   · rw [if_neg h2, if_neg (by omega)]
theorem car_ok (l : F5) : field_limbs_carried l (carF l) := by
 refine ⟨carC l 5, carM l 5, ?_, rfl⟩
 refine Iter.count (fun i => (carC l i, i, carM l i)) 5 (fun i hi => ?_) ?_
 · unfold field_limbs_carried_l0; dsimp only
   rw [if_pos hi, carM_succ, upd_same]
   have e : carM l i i = l i := if_neg (by omega)
   rw [e]
   rfl
 · unfold field_limbs_carried_l0; dsimp only
   rw [if_neg (by omega)]
theorem carC_num (l : F5) (h : Bnd (2 ^ 63) l) : ∀ i, i < 5 → (carC l i).toNat < 2 ^ 13 ∧ (carC l (i + 1)).toNat = ((l i).toNat + (carC l i).toNat) / 2 ^ 51
 | 0, hi => by
   refine ⟨by show (0#64 : BitVec 64).toNat < _; decide, ?_⟩
   show ((l 0 + carC l 0) >>> 51).toNat = _
   have := h 0 hi
   rw [shr_toNat, BitVec.toNat_add, Nat.mod_eq_of_lt (by show _ + (0#64 : BitVec 64).toNat < _; rw [BitVec.toNat_ofNat]; omega)]
 | i + 1, hi => by
   obtain ⟨h1, h2⟩ := carC_num l h i (by omega)
   have ha := h i (by omega)
   have hb := h (i + 1) hi
   have hc : (carC l (i + 1)).toNat < 2 ^ 13 := by rw [h2]; omega
   refine ⟨hc, ?_⟩
   show ((l (i + 1) + carC l (i + 1)) >>> 51).toNat = _
   rw [shr_toNat, BitVec.toNat_add, Nat.mod_eq_of_lt (by omega)]
theorem carM_num (l : F5) (h : Bnd (2 ^ 63) l) {q : Nat} (hq : q < 5) : (carM l 5 q).toNat = ((l q).toNat + (carC l q).toNat) % 2 ^ 51 := by
 have h1 := (carC_num l h q hq).1
 have h2 := h q hq
 unfold carM
 rw [if_pos hq, mask_toNat, BitVec.toNat_add, Nat.mod_eq_of_lt (show _ + _ < 2 ^ 64 by omega)]
theorem carF_num (l : F5) (h : Bnd (2 ^ 63) l) : ∃ c, (carC l 5).toNat = c ∧ c ≤ 4096 ∧ val (carF l) + c * 2 ^ 255 = val l + 19 * c ∧ (carF l 0).toNat = (l 0).toNat % 2 ^ 51 + 19 * c ∧ (∀ q, 0 < q → q < 5 → (carF l q).toNat < 2 ^ 51) := by
 have c0 : (carC l 0).toNat = 0 := rfl
 have c1 : (carC l 1).toNat = ((l 0).toNat + (carC l 0).toNat) / 2 ^ 51 := (carC_num l h 0 (by omega)).2
 have c2 : (carC l 2).toNat = ((l 1).toNat + (carC l 1).toNat) / 2 ^ 51 := (carC_num l h 1 (by omega)).2
 have c3 : (carC l 3).toNat = ((l 2).toNat + (carC l 2).toNat) / 2 ^ 51 := (carC_num l h 2 (by omega)).2
 have c4 : (carC l 4).toNat = ((l 3).toNat + (carC l 3).toNat) / 2 ^ 51 := (carC_num l h 3 (by omega)).2
 have c5 : (carC l 5).toNat = ((l 4).toNat + (carC l 4).toNat) / 2 ^ 51 := (carC_num l h 4 (by omega)).2
 have m0 := carM_num l h (q := 0) (by omega)
 have m1 := carM_num l h (q := 1) (by omega)
 have m2 := carM_num l h (q := 2) (by omega)
 have m3 := carM_num l h (q := 3) (by omega)
 have m4 := carM_num l h (q := 4) (by omega)
 have b0 := h 0 (by omega)
 have b1 := h 1 (by omega)
 have b2 := h 2 (by omega)
 have b3 := h 3 (by omega)
 have b4 := h 4 (by omega)
 have d4 := (carC_num l h 4 (by omega)).1
 have hc : (carC l 5).toNat ≤ 4096 := by omega
 have e0 : (carF l 0).toNat = (carM l 5 0).toNat + 19 * (carC l 5).toNat := by
   show (upd (carM l 5) 0 (carM l 5 0 + 19#64 * carC l 5) 0).toNat = _
   rw [upd_same, BitVec.toNat_add, BitVec.toNat_mul, show (19#64 : BitVec 64).toNat = 19 by decide, Nat.mod_eq_of_lt (show 19 * (carC l 5).toNat < 2 ^ 64 by omega), Nat.mod_eq_of_lt (by omega)]
 have eq : ∀ q, 0 < q → carF l q = carM l 5 q := fun q hq => upd_ne _ _ _ _ (by omega)
 refine ⟨_, rfl, hc, ?_, ?_, fun q h0 h5 => ?_⟩
 · unfold val
   rw [e0, eq 1 (by omega), eq 2 (by omega), eq 3 (by omega), eq 4 (by omega), m0, m1, m2, m3, m4]
   rw [c0] at m0 c1
   generalize (carC l 1).toNat = k1 at *
   generalize (carC l 2).toNat = k2 at *
   generalize (carC l 3).toNat = k3 at *
   generalize (carC l 4).toNat = k4 at *
   generalize (carC l 5).toNat = k5 at *
   omega
 · rw [e0, m0, c0, Nat.add_zero]
 · rw [eq q h0, carM_num l h h5]; omega
theorem carF_mod (l : F5) (h : Bnd (2 ^ 63) l) : val (carF l) % p255 = val l % p255 := by
 obtain ⟨c, _, _, hv, _⟩ := carF_num l h
 have : val l = val (carF l) + p255 * c := by unfold p255; omega
 rw [this, Nat.add_mul_mod_self_left]
theorem carF_bnd (l : F5) (h : Bnd (2 ^ 63) l) : Bnd (2 ^ 52) (carF l) := fun q hq => by
 obtain ⟨c, _, hc, _, h0, hr⟩ := carF_num l h
 by_cases e : q = 0
 · subst e; rw [h0]; omega
 · have := hr q (by omega) hq; omega
theorem carF2_num (l : F5) (h : Bnd (2 ^ 63) l) : val (carF (carF l)) < 2 ^ 255 + 19 ∧ (carF (carF l) 0).toNat < 2 ^ 51 + 19 ∧ (∀ q, 0 < q → q < 5 → (carF (carF l) q).toNat < 2 ^ 51) := by
 obtain ⟨c, hc0, hc, hv, h0, hr⟩ := carF_num l h
 have hb : Bnd (2 ^ 63) (carF l) := fun q hq => Nat.lt_of_lt_of_le (carF_bnd l h q hq) (by decide)
 obtain ⟨d, hd0, hd, hw, g0, gr⟩ := carF_num (carF l) hb
 have r1 := hr 1 (by omega) (by omega)
 have r2 := hr 2 (by omega) (by omega)
 have r3 := hr 3 (by omega) (by omega)
 have r4 := hr 4 (by omega) (by omega)
 have s1 := gr 1 (by omega) (by omega)
 have s2 := gr 2 (by omega) (by omega)
 have s3 := gr 3 (by omega) (by omega)
 have s4 := gr 4 (by omega) (by omega)
 have hlt : val (carF l) < 2 ^ 255 + 2 ^ 52 := by unfold val; omega
 have hd1 : d ≤ 1 := by omega
 have h00 : (carF (carF l) 0).toNat < 2 ^ 51 + 19 := by
   rw [g0]
   have := Nat.mod_lt (carF l 0).toNat (show 0 < 2 ^ 51 by decide)
   by_cases hz : d = 0
   · omega
   · omega
 refine ⟨?_, ?_, gr⟩
 · unfold val; omega
 · rw [g0]
   have := Nat.mod_lt (carF l 0).toNat (show 0 < 2 ^ 51 by decide)
   omega
end Go.Proofs.YtjclppnbbpnfnaaDoor
namespace Go.Proofs.YtjclppnbbpnfnaaDoor
set_option linter.unusedSimpArgs false
set_option linter.unusedVariables false
set_option linter.unusedSectionVars false
open Go Go.LW
def qC (x : F5) : Nat → BitVec 64
 | 0 => 19#64
 | i + 1 => (x i + qC x i) >>> 51
def topF (x : F5) : F5 := upd x 0 (x 0 + 19#64 * qC x 5)
def mP (y : F5) (t : Nat) : F5 := fun q => if q < t then (y q + carC y q) &&& 2251799813685247#64 else if q = t then y q + carC y q else y q
def canF (l : F5) : F5 := carM (topF (carF (carF l))) 5
theorem mP_zero (y : F5) : mP y 0 = y := by
 funext q
 unfold mP
 rw [if_neg (by omega)]
 by_cases h : q = 0
 · subst h; rw [if_pos rfl]; show y 0 + 0#64 = y 0; rw [BitVec.add_zero]
 · rw [if_neg h]
theorem mP_succ (y : F5) (t : Nat) : upd (upd (mP y t) (t + 1) (mP y t (t + 1) + (mP y t t >>> 51))) t ((upd (mP y t) (t + 1) (mP y t (t + 1) + (mP y t t >>> 51))) t &&& 2251799813685247#64) = mP y (t + 1) := by
 have e1 : mP y t t = y t + carC y t := by unfold mP; rw [if_neg (by omega), if_pos rfl]
 have e2 : mP y t (t + 1) = y (t + 1) := by unfold mP; rw [if_neg (by omega), if_neg (by omega)]
 funext q
 rw [upd_at]
 by_cases h : q = t
 · subst h
   rw [if_pos rfl, upd_ne _ _ _ _ (by omega), e1]
   unfold mP; rw [if_pos (by omega)]
 · rw [if_neg h, upd_at]
   by_cases h1 : q = t + 1
   · subst h1
     rw [if_pos rfl, e1, e2]
     unfold mP; rw [if_neg (by omega), if_pos rfl]; rfl
   · rw [if_neg h1]
     unfold mP
     by_cases h2 : q < t
     · rw [if_pos h2, if_pos (by omega)]
     · rw [if_neg h2, if_neg h, if_neg (by omega), if_neg h1]
theorem mP_top (y : F5) {q : Nat} (hq : q < 5) : upd (mP y 4) 4 (mP y 4 4 &&& 2251799813685247#64) q = carM y 5 q := by
 rw [upd_at]
 unfold mP carM
 by_cases h : q = 4
 · subst h; rw [if_pos rfl, if_neg (by omega), if_pos rfl, if_pos (by omega)]
 · rw [if_neg h, if_pos (by omega), if_pos hq]
theorem qC_num (x : F5) (h : Bnd (2 ^ 52) x) : ∀ i, i < 5 → (qC x i).toNat ≤ 19 ∧ (qC x (i + 1)).toNat = ((x i).toNat + (qC x i).toNat) / 2 ^ 51
 | 0, hi => by
   have := h 0 hi
   refine ⟨by show (19#64 : BitVec 64).toNat ≤ _; decide, ?_⟩
   show ((x 0 + qC x 0) >>> 51).toNat = _
   rw [shr_toNat, BitVec.toNat_add, Nat.mod_eq_of_lt (by show _ + (19#64 : BitVec 64).toNat < _; rw [BitVec.toNat_ofNat]; omega)]
 | i + 1, hi => by
   obtain ⟨h1, h2⟩ := qC_num x h i (by omega)
   have ha := h i (by omega)
   have hb := h (i + 1) hi
   have hc : (qC x (i + 1)).toNat ≤ 19 := by rw [h2]; omega
   refine ⟨hc, ?_⟩
   show ((x (i + 1) + qC x (i + 1)) >>> 51).toNat = _
   rw [shr_toNat, BitVec.toNat_add, Nat.mod_eq_of_lt (by omega)]
theorem canF_num (l : F5) (h : Bnd (2 ^ 63) l) : val (canF l) = val l % p255 ∧ Bnd (2 ^ 51) (canF l) := by
 obtain ⟨hx, hx0, hxr⟩ := carF2_num l h
 have hb1 : Bnd (2 ^ 63) (carF l) := fun q hq => Nat.lt_of_lt_of_le (carF_bnd l h q hq) (by decide)
 have hmod : val (carF (carF l)) % p255 = val l % p255 := by rw [carF_mod _ hb1, carF_mod _ h]
 unfold canF
 generalize carF (carF l) = x at hx hx0 hxr hmod ⊢
 have hb : Bnd (2 ^ 52) x := fun q hq => by
   by_cases e : q = 0
   · subst e; omega
   · have := hxr q (by omega) hq; omega
 have q0 : (qC x 0).toNat = 19 := rfl
 have q1 : (qC x 1).toNat = ((x 0).toNat + (qC x 0).toNat) / 2 ^ 51 := (qC_num x hb 0 (by omega)).2
 have q2 : (qC x 2).toNat = ((x 1).toNat + (qC x 1).toNat) / 2 ^ 51 := (qC_num x hb 1 (by omega)).2
 have q3 : (qC x 3).toNat = ((x 2).toNat + (qC x 2).toNat) / 2 ^ 51 := (qC_num x hb 2 (by omega)).2
 have q4 : (qC x 4).toNat = ((x 3).toNat + (qC x 3).toNat) / 2 ^ 51 := (qC_num x hb 3 (by omega)).2
 have q5 : (qC x 5).toNat = ((x 4).toNat + (qC x 4).toNat) / 2 ^ 51 := (qC_num x hb 4 (by omega)).2
 have b1 := hxr 1 (by omega) (by omega)
 have b2 := hxr 2 (by omega) (by omega)
 have b3 := hxr 3 (by omega) (by omega)
 have b4 := hxr 4 (by omega) (by omega)
 have hQ : (qC x 5).toNat = (val x + 19) / 2 ^ 255 := by
   unfold val
   rw [q0] at q1
   generalize (qC x 1).toNat = k1 at *
   generalize (qC x 2).toNat = k2 at *
   generalize (qC x 3).toNat = k3 at *
   generalize (qC x 4).toNat = k4 at *
   omega
 have hQ1 : (qC x 5).toNat ≤ 1 := by omega
 have t0 : (topF x 0).toNat = (x 0).toNat + 19 * (qC x 5).toNat := by
   show (upd x 0 (x 0 + 19#64 * qC x 5) 0).toNat = _
   rw [upd_same, BitVec.toNat_add, BitVec.toNat_mul, show (19#64 : BitVec 64).toNat = 19 by decide, Nat.mod_eq_of_lt (show 19 * (qC x 5).toNat < 2 ^ 64 by omega), Nat.mod_eq_of_lt (by omega)]
 have tq : ∀ q, 0 < q → topF x q = x q := fun q hq => upd_ne _ _ _ _ (by omega)
 have hy : Bnd (2 ^ 63) (topF x) := fun q hq => by
   by_cases e : q = 0
   · subst e; omega
   · rw [tq q (by omega)]; have := hxr q (by omega) hq; omega
 have hyv : val (topF x) = val x + 19 * (qC x 5).toNat := by
   unfold val; rw [t0, tq 1 (by omega), tq 2 (by omega), tq 3 (by omega), tq 4 (by omega)]; omega
 generalize topF x = y at hy hyv ⊢
 have c0 : (carC y 0).toNat = 0 := rfl
 have c1 : (carC y 1).toNat = ((y 0).toNat + (carC y 0).toNat) / 2 ^ 51 := (carC_num y hy 0 (by omega)).2
 have c2 : (carC y 2).toNat = ((y 1).toNat + (carC y 1).toNat) / 2 ^ 51 := (carC_num y hy 1 (by omega)).2
 have c3 : (carC y 3).toNat = ((y 2).toNat + (carC y 2).toNat) / 2 ^ 51 := (carC_num y hy 2 (by omega)).2
 have c4 : (carC y 4).toNat = ((y 3).toNat + (carC y 3).toNat) / 2 ^ 51 := (carC_num y hy 3 (by omega)).2
 have m0 := carM_num y hy (q := 0) (by omega)
 have m1 := carM_num y hy (q := 1) (by omega)
 have m2 := carM_num y hy (q := 2) (by omega)
 have m3 := carM_num y hy (q := 3) (by omega)
 have m4 := carM_num y hy (q := 4) (by omega)
 have hz : val (carM y 5) = val y % 2 ^ 255 := by
   unfold val
   rw [m0, m1, m2, m3, m4]
   rw [c0] at c1 m0
   rw [c0]
   generalize (carC y 1).toNat = k1 at *
   generalize (carC y 2).toNat = k2 at *
   generalize (carC y 3).toNat = k3 at *
   generalize (carC y 4).toNat = k4 at *
   omega
 refine ⟨?_, fun q hq => by rw [carM_num y hy hq]; omega⟩
 rw [hz, ← hmod, hyv]
 rw [show p255 = 57896044618658097711785492504343953926634992332820282019728792003956564819949 by decide]
 generalize (qC x 5).toNat = Q at hQ hQ1 ⊢
 generalize val x = v at hx hQ ⊢
 clear hmod hyv hz m0 m1 m2 m3 m4 c0 c1 c2 c3 c4 q0 q1 q2 q3 q4 q5
 rcases (by omega : Q = 0 ∨ Q = 1) with rfl | rfl
 · have hv : v < 57896044618658097711785492504343953926634992332820282019728792003956564819949 := by omega
   rw [Nat.mul_zero, Nat.add_zero, Nat.mod_eq_of_lt hv, Nat.mod_eq_of_lt (by omega)]
 · have hv : 57896044618658097711785492504343953926634992332820282019728792003956564819949 ≤ v := by omega
   rw [Nat.mod_eq_sub_mod hv, Nat.mod_eq_of_lt (show v - 57896044618658097711785492504343953926634992332820282019728792003956564819949 < 57896044618658097711785492504343953926634992332820282019728792003956564819949 by omega), Nat.mod_eq_sub_mod (show 2 ^ 255 ≤ v + 19 * 1 by omega), Nat.mod_eq_of_lt (by omega)]
   omega
end Go.Proofs.YtjclppnbbpnfnaaDoor
namespace Go.Proofs.YtjclppnbbpnfnaaDoor
set_option linter.unusedSimpArgs false
set_option linter.unusedVariables false
set_option linter.unusedSectionVars false
open Go Go.LW
def bitF (z : F5) (t : Nat) : BitVec 8 := (((z (t / 51)) >>> (t % 51)) &&& 1#64).setWidth 8
def bitsF (z : F5) : Nat → (Nat → BitVec 8)
 | 0 => fun _ => 0#8
 | t + 1 => upd (bitsF z t) (t / 8) (bitsF z t (t / 8) ||| (bitF z t <<< (t % 8)))
theorem limb_bit (z : F5) (h : Bnd (2 ^ 51) z) {i s : Nat} (hi : i < 5) (hs : s < 51) : (val z).testBit (51 * i + s) = (z i).toNat.testBit s := by
 have h0 := h 0 (by omega)
 have h1 := h 1 (by omega)
 have h2 := h 2 (by omega)
 have h3 := h 3 (by omega)
 have h4 := h 4 (by omega)
 have e : val z / 2 ^ (51 * i) % 2 ^ 51 = (z i).toNat := by
   unfold val
   rcases (by omega : i = 0 ∨ i = 1 ∨ i = 2 ∨ i = 3 ∨ i = 4) with rfl | rfl | rfl | rfl | rfl <;> omega
 rw [← e, Nat.testBit_mod_two_pow, Nat.testBit_div_two_pow]
 simp only [hs, decide_true, Bool.true_and]
 congr 1; omega
theorem bitF_get (z : F5) (h : Bnd (2 ^ 51) z) {t : Nat} (ht : t < 255) (k : Nat) : (bitF z t).getLsbD k = (decide (k = 0) && (val z).testBit t) := by
 have hl := limb_bit z h (i := t / 51) (s := t % 51) (by omega) (Nat.mod_lt _ (by omega))
 rw [show 51 * (t / 51) + t % 51 = t by omega] at hl
 unfold bitF
 rw [BitVec.getLsbD_setWidth, BitVec.getLsbD_and, BitVec.getLsbD_ushiftRight, BitVec.getLsbD_one, hl]
 by_cases hk : k = 0
 · subst hk
   simp [BitVec.getLsbD]
 · simp [hk]
theorem bitsF_get (z : F5) (h : Bnd (2 ^ 51) z) : ∀ t, t ≤ 255 → ∀ q j, (bitsF z t q).getLsbD j = (decide (j < 8) && decide (8 * q + j < t) && (val z).testBit (8 * q + j))
 | 0, _, q, j => by simp [bitsF]
 | t + 1, ht, q, j => by
   have ih := bitsF_get z h t (by omega)
   show (upd (bitsF z t) (t / 8) (bitsF z t (t / 8) ||| (bitF z t <<< (t % 8))) q).getLsbD j = _
   rw [upd_at]
   by_cases hq : q = t / 8
   · rw [if_pos hq, BitVec.getLsbD_or, BitVec.getLsbD_shiftLeft, ih, bitF_get z h (by omega), ← hq]
     by_cases hj : j < 8
     · by_cases he : 8 * q + j = t
       · have e1 : j - t % 8 = 0 := by omega
         have e2 : ¬ j < t % 8 := by omega
         have e3 : ¬ 8 * q + j < t := by omega
         have e4 : 8 * q + j < t + 1 := by omega
         simp only [hj, e1, e2, e3, e4, he, decide_true, decide_false, Bool.true_and, Bool.and_true, Bool.false_and, Bool.and_false, Bool.false_or, Bool.not_false]
         simp [Nat.lt_irrefl]
       · by_cases hl : 8 * q + j < t
         · have e2 : j < t % 8 := by omega
           have e4 : 8 * q + j < t + 1 := by omega
           simp only [hj, e2, hl, e4, decide_true, Bool.true_and, Bool.not_true, Bool.false_and, Bool.and_false, Bool.or_false]
         · have e1 : ¬ j - t % 8 = 0 := by omega
           have e4 : ¬ 8 * q + j < t + 1 := by omega
           simp only [hj, e1, hl, e4, decide_true, decide_false, Bool.true_and, Bool.false_and, Bool.and_false, Bool.or_false]
     · simp [hj]
   · rw [if_neg hq, ih]
     by_cases hj : j < 8
     · by_cases hl : 8 * q + j < t
       · have e4 : 8 * q + j < t + 1 := by omega
         simp only [hl, e4]
       · have e4 : ¬ 8 * q + j < t + 1 := by omega
         simp only [hl, e4]
     · simp [hj]
theorem bitsF_num (z : F5) (h : Bnd (2 ^ 51) z) (hv : val z < 2 ^ 255) (q : Nat) : (bitsF z 255 q).toNat = val z / 256 ^ q % 256 := by
 apply Nat.eq_of_testBit_eq
 intro j
 have hg := bitsF_get z h 255 (Nat.le_refl _) q j
 rw [BitVec.getLsbD] at hg
 rw [hg, show (256 : Nat) ^ q = 2 ^ (8 * q) by rw [Nat.pow_mul], show (256 : Nat) = 2 ^ 8 by decide, Nat.testBit_mod_two_pow, Nat.testBit_div_two_pow]
 by_cases hj : j < 8
 · by_cases hl : 8 * q + j < 255
   · simp only [hj, hl, decide_true, Bool.true_and]; congr 1; omega
   · have : (val z).testBit (j + 8 * q) = false := Nat.testBit_lt_two_pow (Nat.lt_of_lt_of_le hv (Nat.pow_le_pow_right (by decide) (by omega)))
     simp only [hj, hl, decide_true, decide_false, Bool.true_and, Bool.false_and, Bool.and_false]
     first | exact this.symm | (rw [Nat.add_comm] at this; exact this.symm)
 · simp only [hj, decide_false, Bool.false_and]
theorem numB_of (b : Nat → BitVec 8) {N : Nat} (h : ∀ q, (b q).toNat = N / 256 ^ q % 256) : ∀ n, numB b n = N % 256 ^ n
 | 0 => by simp [numB, Nat.mod_one]
 | n + 1 => by
   show numB b n + (b n).toNat * 256 ^ n = _
   rw [numB_of b h n, h n, Nat.pow_succ, Nat.mod_mul, Nat.mul_comm]
def bytesF (l : F5) : Nat → BitVec 8 := bitsF (canF l) 255
theorem bytes_num (l : F5) (h : Bnd (2 ^ 63) l) : numB (bytesF l) 32 = val l % p255 := by
 obtain ⟨hv, hb⟩ := canF_num l h
 have hlt : val l % p255 < p255 := Nat.mod_lt _ (by decide)
 have hp : p255 < 2 ^ 255 := by decide
 unfold bytesF
 rw [numB_of _ (bitsF_num (canF l) hb (by rw [hv]; omega)) 32, hv, Nat.mod_eq_of_lt (Nat.lt_of_lt_of_le hlt (by decide))]
theorem bytes_ok (l : F5) : field_Elem_Bytes l (bytesF l) := by
 refine ⟨_, car_ok l, _, car_ok _, qC (carF (carF l)) 5, ?_, mP (topF (carF (carF l))) 4, ?_, bytesF l, ?_, rfl⟩
 · refine Iter.count (fun i => (qC (carF (carF l)) (i + 1), i + 1)) 4 (fun i hi => ?_) ?_
   · unfold field_Elem_Bytes_l0; dsimp only
     rw [if_pos (by omega)]; rfl
   · unfold field_Elem_Bytes_l0; dsimp only
     rw [if_neg (by omega)]
 · have e := mP_zero (topF (carF (carF l)))
   have := Iter.count (step := field_Elem_Bytes_l1) (x := mP (topF (carF (carF l))) 4) (fun i => (i, mP (topF (carF (carF l))) i)) 4 (fun i hi => by
     unfold field_Elem_Bytes_l1; dsimp only
     rw [if_pos hi, mP_succ]) (by
     unfold field_Elem_Bytes_l1; dsimp only
     rw [if_neg (by omega)])
   rw [e] at this
   exact this
 · refine Iter.count (fun i => (i, bitsF (canF l) i)) 255 (fun i hi => ?_) ?_
   · unfold field_Elem_Bytes_l2; dsimp only
     rw [if_pos hi, mP_top _ (show i / 51 < 5 by omega)]
     rfl
   · unfold field_Elem_Bytes_l2; dsimp only
     rw [if_neg (by omega)]
     rfl
end Go.Proofs.YtjclppnbbpnfnaaDoor
namespace Go.Proofs.YtjclppnbbpnfnaaDoor
set_option linter.unusedSimpArgs false
set_option linter.unusedVariables false
set_option linter.unusedSectionVars false
open Go Go.LW
def mhi (x y : BitVec 64) : BitVec 64 :=
 ((((x >>> 32) * (y >>> 32)) + ((((x >>> 32) * (y &&& (4294967295#64))) + (((x &&& (4294967295#64)) * (y &&& (4294967295#64))) >>> 32)) >>> 32)) + ((((((x >>> 32) * (y &&& (4294967295#64))) + (((x &&& (4294967295#64)) * (y &&& (4294967295#64))) >>> 32)) &&& (4294967295#64)) + ((x &&& (4294967295#64)) * (y >>> 32))) >>> 32))
theorem mul64_ok (x y : BitVec 64) : bits_Mul64 x y (mhi x y, x * y) := rfl
theorem and32 (x : BitVec 64) : (x &&& 4294967295#64).toNat = x.toNat % 2 ^ 32 := by
 rw [BitVec.toNat_and, show (4294967295#64).toNat = 2 ^ 32 - 1 by decide, Nat.and_two_pow_sub_one_eq_mod]
theorem mulT {x y : BitVec 64} (h : x.toNat * y.toNat < 2 ^ 64) : (x * y).toNat = x.toNat * y.toNat := by rw [BitVec.toNat_mul, Nat.mod_eq_of_lt h]
theorem addT {x y : BitVec 64} (h : x.toNat + y.toNat < 2 ^ 64) : (x + y).toNat = x.toNat + y.toNat := by rw [BitVec.toNat_add, Nat.mod_eq_of_lt h]
theorem prod32 {a b : Nat} (ha : a < 2 ^ 32) (hb : b < 2 ^ 32) : a * b ≤ (2 ^ 32 - 1) * (2 ^ 32 - 1) := Nat.mul_le_mul (by omega) (by omega)
theorem mhi_num (x y : BitVec 64) : (mhi x y).toNat * 2 ^ 64 + (x * y).toNat = x.toNat * y.toNat := by
 have hx := x.isLt
 have hy := y.isLt
 have a1 : (x >>> 32).toNat = x.toNat / 2 ^ 32 := shr_toNat x 32
 have b1 : (y >>> 32).toNat = y.toNat / 2 ^ 32 := shr_toNat y 32
 have a0 := and32 x
 have b0 := and32 y
 have hxx : x.toNat = x.toNat / 2 ^ 32 * 2 ^ 32 + x.toNat % 2 ^ 32 := by omega
 have hyy : y.toNat = y.toNat / 2 ^ 32 * 2 ^ 32 + y.toNat % 2 ^ 32 := by omega
 have hA1 : x.toNat / 2 ^ 32 < 2 ^ 32 := by omega
 have hB1 : y.toNat / 2 ^ 32 < 2 ^ 32 := by omega
 have hA0 : x.toNat % 2 ^ 32 < 2 ^ 32 := by omega
 have hB0 : y.toNat % 2 ^ 32 < 2 ^ 32 := by omega
 have hprod : x.toNat * y.toNat = (x.toNat / 2 ^ 32 * (y.toNat / 2 ^ 32)) * 2 ^ 64 + (x.toNat / 2 ^ 32 * (y.toNat % 2 ^ 32)) * 2 ^ 32 + (x.toNat % 2 ^ 32 * (y.toNat / 2 ^ 32)) * 2 ^ 32 + x.toNat % 2 ^ 32 * (y.toNat % 2 ^ 32) := by
   conv => lhs; rw [hxx, hyy]
   generalize x.toNat / 2 ^ 32 = p
   generalize x.toNat % 2 ^ 32 = q
   generalize y.toNat / 2 ^ 32 = r
   generalize y.toNat % 2 ^ 32 = s
   rw [Nat.add_mul, Nat.mul_add, Nat.mul_add, show p * 2 ^ 32 * (r * 2 ^ 32) = p * r * 2 ^ 64 by rw [Nat.mul_mul_mul_comm], show p * 2 ^ 32 * s = p * s * 2 ^ 32 by rw [Nat.mul_right_comm], show q * (r * 2 ^ 32) = q * r * 2 ^ 32 by rw [Nat.mul_assoc]]
   omega
 have p11 := prod32 hA1 hB1
 have p10 := prod32 hA1 hB0
 have p01 := prod32 hA0 hB1
 have p00 := prod32 hA0 hB0
 have w0 : ((x &&& (4294967295#64)) * (y &&& (4294967295#64))).toNat = x.toNat % 2 ^ 32 * (y.toNat % 2 ^ 32) := by rw [mulT (by rw [a0, b0]; omega), a0, b0]
 have w10 : ((x >>> 32) * (y &&& (4294967295#64))).toNat = x.toNat / 2 ^ 32 * (y.toNat % 2 ^ 32) := by rw [mulT (by rw [a1, b0]; omega), a1, b0]
 have w01 : ((x &&& (4294967295#64)) * (y >>> 32)).toNat = x.toNat % 2 ^ 32 * (y.toNat / 2 ^ 32) := by rw [mulT (by rw [a0, b1]; omega), a0, b1]
 have w11 : ((x >>> 32) * (y >>> 32)).toNat = x.toNat / 2 ^ 32 * (y.toNat / 2 ^ 32) := by rw [mulT (by rw [a1, b1]; omega), a1, b1]
 have hlo : (x * y).toNat = (x.toNat * y.toNat) % 2 ^ 64 := BitVec.toNat_mul _ _
 rw [hlo]
 unfold mhi
 generalize (x >>> 32) * (y >>> 32) = v11 at *
 generalize (x >>> 32) * (y &&& (4294967295#64)) = v10 at *
 generalize (x &&& (4294967295#64)) * (y >>> 32) = v01 at *
 generalize (x &&& (4294967295#64)) * (y &&& (4294967295#64)) = v00 at *
 have t1 : (v10 + (v00 >>> 32)).toNat = v10.toNat + v00.toNat / 2 ^ 32 := by rw [addT (by rw [shr_toNat]; omega), shr_toNat]
 generalize v10 + (v00 >>> 32) = t at *
 have t2 : ((t &&& 4294967295#64) + v01).toNat = t.toNat % 2 ^ 32 + v01.toNat := by rw [addT (by rw [and32]; omega), and32]
 generalize (t &&& 4294967295#64) + v01 = u at *
 have t3 : (v11 + (t >>> 32)).toNat = v11.toNat + t.toNat / 2 ^ 32 := by rw [addT (by rw [shr_toNat]; omega), shr_toNat]
 generalize v11 + (t >>> 32) = s at *
 have t4 : (s + (u >>> 32)).toNat = s.toNat + u.toNat / 2 ^ 32 := by rw [addT (by rw [shr_toNat]; omega), shr_toNat]
 rw [t4, hprod]
 rw [← w11, ← w10, ← w01, ← w0]
 omega
end Go.Proofs.YtjclppnbbpnfnaaDoor
namespace Go.Proofs.YtjclppnbbpnfnaaDoor
set_option linter.unusedSimpArgs false
set_option linter.unusedVariables false
set_option linter.unusedSectionVars false
open Go Go.LW
set_option maxRecDepth 10000
def cry (xlo l : BitVec 64) : BitVec 64 := BitVec.ofNat 64 ((xlo.toNat + l.toNat + (0#64).toNat) / 2 ^ 64)
def lpH (xhi xlo a b : BitVec 64) : BitVec 64 := xhi + mhi a b + cry xlo (a * b)
def lpL (xlo a b : BitVec 64) : BitVec 64 := xlo + a * b + 0#64
theorem plus_ok (xhi xlo a b : BitVec 64) : field_long_plus xhi xlo a b (lpH xhi xlo a b, lpL xlo a b) := by
 refine ⟨_, _, mul64_ok a b, ?_, rfl⟩
 have h1 := xlo.isLt
 have h2 := (a * b).isLt
 rw [BitVec.toNat_ofNat, show (0#64 : BitVec 64).toNat = 0 by decide]
 omega
theorem plus_lin (M A B C D P q r : Nat) (hm : C * M + D = P) (e : M * q + r = B + D) : (A + C + q) * M + r = A * M + B + P := by
 rw [Nat.add_mul, Nat.add_mul, ← hm]
 rw [Nat.mul_comm] at e
 generalize A * M = a
 generalize C * M = c
 generalize q * M = d at *
 omega
theorem plus_num {xhi xlo a b : BitVec 64} (h : xhi.toNat * 2 ^ 64 + xlo.toNat + a.toNat * b.toNat < 2 ^ 128) :
   (lpH xhi xlo a b).toNat * 2 ^ 64 + (lpL xlo a b).toNat = xhi.toNat * 2 ^ 64 + xlo.toNat + a.toNat * b.toNat := by
 have hm := mhi_num a b
 have h1 := xlo.isLt
 have h2 := (a * b).isLt
 unfold lpH lpL cry
 generalize a * b = l at *
 generalize mhi a b = hh at *
 have e0 : (0#64 : BitVec 64).toNat = 0 := BitVec.toNat_ofNat 0 64
 have h4 := hh.isLt
 have h3 := xhi.isLt
 have h5 : (xlo + l + 0#64).toNat = (xlo.toNat + l.toNat) % 2 ^ 64 := by rw [BitVec.add_zero, BitVec.toNat_add]
 have h6 : (BitVec.ofNat 64 ((xlo.toNat + l.toNat + (0#64 : BitVec 64).toNat) / 2 ^ 64)).toNat = (xlo.toNat + l.toNat) / 2 ^ 64 := by
   rw [BitVec.toNat_ofNat, e0, Nat.add_zero, Nat.mod_eq_of_lt]
   omega
 have h7 : (xhi + hh + BitVec.ofNat 64 ((xlo.toNat + l.toNat + (0#64 : BitVec 64).toNat) / 2 ^ 64)).toNat = xhi.toNat + hh.toNat + (xlo.toNat + l.toNat) / 2 ^ 64 := by
   have g1 : (xhi + hh).toNat = xhi.toNat + hh.toNat := addT (by omega)
   rw [addT (by rw [g1, h6]; omega), g1, h6]
 rw [h5, h7]
 exact plus_lin (2 ^ 64) _ _ _ _ _ _ _ hm (Nat.div_add_mod _ _)
def SV (m : Nat → BitVec 64) (k : Nat) : Nat := (m (k * 2)).toNat * 2 ^ 64 + (m (k * 2 + 1)).toNat
def yv (b : F5) (i j : Nat) : BitVec 64 := if 5 ≤ i + j then b j * 19#64 else b j
def rowA (a b : F5) (i : Nat) (m : Nat → BitVec 64) : Nat → (Nat → BitVec 64)
 | 0 => m
 | j + 1 => spl (rowA a b i m j) (((i + j) % 5) * 2) 2 (lit [lpH (rowA a b i m j (((i + j) % 5) * 2 + 0)) (rowA a b i m j (((i + j) % 5) * 2 + 1)) (a i) (yv b i j), lpL (rowA a b i m j (((i + j) % 5) * 2 + 1)) (a i) (yv b i j)])
def accA (a b : F5) : Nat → (Nat → BitVec 64)
 | 0 => fun _ => 0#64
 | i + 1 => rowA a b i (accA a b i) 5
theorem acc_ok (a b : F5) : Iter (field_Elem_Mul_l0 a b) (0, fun _ => 0#64) (accA a b 5) := by
 refine Iter.count (fun i => (i, accA a b i)) 5 (fun i hi => ?_) ?_
 · unfold field_Elem_Mul_l0; dsimp only
   rw [if_pos hi]
   refine ⟨rowA a b i (accA a b i) 5, ?_, rfl⟩
   refine Iter.count (fun j => (j, rowA a b i (accA a b i) j)) 5 (fun j hj => ?_) ?_
   · unfold field_Elem_Mul_l1; dsimp only
     rw [if_pos hj]
     refine ⟨yv b i j, ?_, _, _, plus_ok _ _ _ _, rfl⟩
     unfold yv
     by_cases h : 5 ≤ i + j
     · rw [if_pos h, if_pos h]
     · rw [if_neg h, if_neg h]
   · unfold field_Elem_Mul_l1; dsimp only
     rw [if_neg (by omega)]
 · unfold field_Elem_Mul_l0; dsimp only
   rw [if_neg (by omega)]
theorem SV_spl (m : Nat → BitVec 64) (k0 : Nat) (h l : BitVec 64) (k : Nat) : SV (spl m (k0 * 2) 2 (lit [h, l])) k = if k = k0 then h.toNat * 2 ^ 64 + l.toNat else SV m k := by
 unfold SV
 by_cases hk : k = k0
 · subst hk
   rw [if_pos rfl, spl_in _ _ _ _ _ (by omega), spl_in _ _ _ _ _ (by omega), Nat.sub_self, show k * 2 + 1 - k * 2 = 1 by omega]
   rfl
 · rw [if_neg hk, spl_out _ _ _ _ _ (by omega), spl_out _ _ _ _ _ (by omega)]
def yN (b : F5) (i j : Nat) : Nat := if 5 ≤ i + j then (b j).toNat * 19 else (b j).toNat
theorem yv_num {b : F5} (h : Bnd (2 ^ 52) b) {i j : Nat} (hj : j < 5) : (yv b i j).toNat = yN b i j ∧ yN b i j < 19 * 2 ^ 52 := by
 have hb := h j hj
 unfold yv yN
 by_cases e : 5 ≤ i + j
 · rw [if_pos e, if_pos e, BitVec.toNat_mul, show (19#64 : BitVec 64).toNat = 19 by decide]; omega
 · rw [if_neg e, if_neg e]; omega
def rowN (a b : F5) (i : Nat) (f : Nat → Nat) : Nat → (Nat → Nat)
 | 0 => f
 | j + 1 => fun k => if k = (i + j) % 5 then rowN a b i f j k + (a i).toNat * yN b i j else rowN a b i f j k
def accN (a b : F5) : Nat → (Nat → Nat)
 | 0 => fun _ => 0
 | i + 1 => rowN a b i (accN a b i) 5
theorem row_num {a b : F5} (ha : Bnd (2 ^ 52) a) (hb : Bnd (2 ^ 52) b) {i : Nat} (hi : i < 5) {m : Nat → BitVec 64} {f : Nat → Nat} (hm : ∀ k, k < 5 → SV m k = f k) (hf : ∀ k, k < 5 → f k ≤ i * 5 * (2 ^ 52 * (19 * 2 ^ 52))) :
   ∀ j, j ≤ 5 → ∀ k, k < 5 → SV (rowA a b i m j) k = rowN a b i f j k ∧ rowN a b i f j k ≤ (i * 5 + j) * (2 ^ 52 * (19 * 2 ^ 52))
 | 0, _, k, hk => ⟨hm k hk, by have := hf k hk; simpa [rowN] using this⟩
 | j + 1, hj, k, hk => by
   obtain ⟨h1, h2⟩ := row_num ha hb hi hm hf j (by omega) k hk
   obtain ⟨y1, y2⟩ := yv_num hb (i := i) (j := j) (by omega)
   have hai := ha i hi
   have hp : (a i).toNat * yN b i j ≤ 2 ^ 52 * (19 * 2 ^ 52) := Nat.mul_le_mul (by omega) (by omega)
   have hij : (i * 5 + j) * (2 ^ 52 * (19 * 2 ^ 52)) ≤ 24 * (2 ^ 52 * (19 * 2 ^ 52)) := Nat.mul_le_mul_right _ (by omega)
   show SV (spl (rowA a b i m j) (((i + j) % 5) * 2) 2 (lit [_, _])) k = (if k = (i + j) % 5 then rowN a b i f j k + (a i).toNat * yN b i j else rowN a b i f j k) ∧ (if k = (i + j) % 5 then rowN a b i f j k + (a i).toNat * yN b i j else rowN a b i f j k) ≤ _
   rw [SV_spl]
   have hs : (i * 5 + (j + 1)) * (2 ^ 52 * (19 * 2 ^ 52)) = (i * 5 + j) * (2 ^ 52 * (19 * 2 ^ 52)) + 2 ^ 52 * (19 * 2 ^ 52) := by rw [← Nat.add_assoc, Nat.add_mul, Nat.one_mul]
   by_cases e : k = (i + j) % 5
   · rw [if_pos e, if_pos e, ← e, hs]
     have h1' : (rowA a b i m j (k * 2)).toNat * 2 ^ 64 + (rowA a b i m j (k * 2 + 1)).toNat = rowN a b i f j k := h1
     have := plus_num (xhi := rowA a b i m j (k * 2 + 0)) (xlo := rowA a b i m j (k * 2 + 1)) (a := a i) (b := yv b i j) (by
       rw [y1]; show (rowA a b i m j (k * 2)).toNat * 2 ^ 64 + (rowA a b i m j (k * 2 + 1)).toNat + _ < _; omega)
     rw [this, y1]
     refine ⟨by show (rowA a b i m j (k * 2)).toNat * 2 ^ 64 + (rowA a b i m j (k * 2 + 1)).toNat + _ = _; rw [h1'], by omega⟩
   · rw [if_neg e, if_neg e, hs]
     exact ⟨h1, Nat.le_trans h2 (Nat.le_add_right _ _)⟩
theorem acc_num {a b : F5} (ha : Bnd (2 ^ 52) a) (hb : Bnd (2 ^ 52) b) : ∀ i, i ≤ 5 → ∀ k, k < 5 → SV (accA a b i) k = accN a b i k ∧ accN a b i k ≤ i * 5 * (2 ^ 52 * (19 * 2 ^ 52))
 | 0, _, k, _ => ⟨by show (0#64 : BitVec 64).toNat * 2 ^ 64 + (0#64 : BitVec 64).toNat = 0; rw [BitVec.toNat_ofNat 0 64], by simp [accN]⟩
 | i + 1, hi, k, hk => by
   have ih := acc_num ha hb i (by omega)
   have := row_num ha hb (i := i) (by omega) (fun k hk => (ih k hk).1) (fun k hk => (ih k hk).2) 5 (by omega) k hk
   rw [show i * 5 + 5 = (i + 1) * 5 by omega] at this
   exact this
end Go.Proofs.YtjclppnbbpnfnaaDoor
namespace Go.Proofs.YtjclppnbbpnfnaaDoor
set_option linter.unusedSimpArgs false
set_option linter.unusedVariables false
set_option linter.unusedSectionVars false
open Go Go.LW
set_option maxRecDepth 10000
def cC (m : Nat → BitVec 64) : Nat → BitVec 64
 | 0 => 0#64
 | i + 1 => (((m (i * 2 + 0)) + (BitVec.ofNat 64 (((m (i * 2 + 1)).toNat + (cC m i).toNat + (0#64).toNat) / 2 ^ 64))) <<< 13) ||| (((m (i * 2 + 1)) + (cC m i) + (0#64)) >>> 51)
def outM (m : Nat → BitVec 64) (i : Nat) : F5 := fun q => if q < i then (((m (q * 2 + 1)) + (cC m q) + (0#64)) &&& (2251799813685247#64)) else 0#64
theorem outM_succ (m : Nat → BitVec 64) (i : Nat) : upd (outM m i) i (((m (i * 2 + 1)) + (cC m i) + (0#64)) &&& (2251799813685247#64)) = outM m (i + 1) := by
 funext q
 rw [upd_at]
 unfold outM
 by_cases h : q = i
 · subst h; rw [if_pos rfl, if_pos (by omega)]
 · rw [if_neg h]
   by_cases h2 : q < i
   · rw [if_pos h2, if_pos (by omega)]
   · rw [if_neg h2, if_neg (by omega)]
def preM (a b : F5) : F5 := upd (outM (accA a b 5) 5) 0 (outM (accA a b 5) 5 0 + 19#64 * cC (accA a b 5) 5)
def mulF (a b : F5) : F5 := carF (preM a b)
theorem outM_zero (m : Nat → BitVec 64) : outM m 0 = fun _ => 0#64 := by
 funext q; unfold outM; rw [if_neg (by omega)]
theorem mul_ok (a b : F5) : field_Elem_Mul a b (mulF a b) := by
 refine ⟨_, acc_ok a b, cC (accA a b 5) 5, outM (accA a b 5) 5, ?_, _, car_ok _, rfl⟩
 have h := Iter.count (step := field_Elem_Mul_l2 (accA a b 5)) (x := (cC (accA a b 5) 5, outM (accA a b 5) 5)) (fun i => (cC (accA a b 5) i, i, outM (accA a b 5) i)) 5 (fun i hi => by
   unfold field_Elem_Mul_l2; dsimp only
   rw [if_pos hi, outM_succ]; rfl) (by
   unfold field_Elem_Mul_l2; dsimp only
   rw [if_neg (by omega)])
 rw [outM_zero] at h
 exact h
theorem sq_ok (a : F5) : field_Elem_Square a (mulF a a) := ⟨_, mul_ok a a, rfl⟩
theorem lt64 {y : Nat} (h : y < 2 ^ 51) : y * 2 ^ 13 < 2 ^ 64 := by omega
theorem cry_num {hi lo c : BitVec 64} (hS : hi.toNat * 2 ^ 64 + lo.toNat + c.toNat < 2 ^ 115) :
   (((hi + (BitVec.ofNat 64 ((lo.toNat + c.toNat + (0#64 : BitVec 64).toNat) / 2 ^ 64))) <<< 13) ||| ((lo + c + 0#64) >>> 51)).toNat = (hi.toNat * 2 ^ 64 + lo.toNat + c.toNat) / 2 ^ 51 ∧
   ((lo + c + 0#64) &&& 2251799813685247#64).toNat = (hi.toNat * 2 ^ 64 + lo.toNat + c.toNat) % 2 ^ 51 := by
 have e0 : (0#64 : BitVec 64).toNat = 0 := BitVec.toNat_ofNat 0 64
 have h1 := lo.isLt
 have h2 := c.isLt
 have h3 := hi.isLt
 have h5 : (lo + c + 0#64).toNat = (lo.toNat + c.toNat) % 2 ^ 64 := by rw [BitVec.add_zero, BitVec.toNat_add]
 have h6 : (BitVec.ofNat 64 ((lo.toNat + c.toNat + (0#64 : BitVec 64).toNat) / 2 ^ 64)).toNat = (lo.toNat + c.toNat) / 2 ^ 64 := by
   rw [BitVec.toNat_ofNat, e0, Nat.add_zero, Nat.mod_eq_of_lt]; omega
 have h7 : (hi + BitVec.ofNat 64 ((lo.toNat + c.toNat + (0#64 : BitVec 64).toNat) / 2 ^ 64)).toNat = hi.toNat + (lo.toNat + c.toNat) / 2 ^ 64 := by
   rw [addT (by rw [h6]; omega), h6]
 refine ⟨?_, ?_⟩
 · rw [BitVec.toNat_or, BitVec.toNat_shiftLeft, shr_toNat, h5, h7, Nat.shiftLeft_eq]
   have hh : hi.toNat + (lo.toNat + c.toNat) / 2 ^ 64 < 2 ^ 51 := by omega
   have hh2 : (hi.toNat + (lo.toNat + c.toNat) / 2 ^ 64) * 2 ^ 13 < 2 ^ 64 := by
     exact lt64 hh
   rw [Nat.mod_eq_of_lt hh2]
   have hr : (lo.toNat + c.toNat) % 2 ^ 64 / 2 ^ 51 < 2 ^ 13 := by omega
   rw [Nat.mul_comm, ← Nat.two_pow_add_eq_or_of_lt hr]
   omega
 · rw [mask_toNat, h5]; omega
section sums
variable {a b : F5}
theorem acc0 : accN a b 5 0 = (a 0).toNat * (b 0).toNat + (a 1).toNat * ((b 4).toNat * 19) + (a 2).toNat * ((b 3).toNat * 19) + (a 3).toNat * ((b 2).toNat * 19) + (a 4).toNat * ((b 1).toNat * 19) := by simp [accN, rowN, yN]
theorem acc1 : accN a b 5 1 = (a 0).toNat * (b 1).toNat + (a 1).toNat * (b 0).toNat + (a 2).toNat * ((b 4).toNat * 19) + (a 3).toNat * ((b 3).toNat * 19) + (a 4).toNat * ((b 2).toNat * 19) := by simp [accN, rowN, yN]
theorem acc2 : accN a b 5 2 = (a 0).toNat * (b 2).toNat + (a 1).toNat * (b 1).toNat + (a 2).toNat * (b 0).toNat + (a 3).toNat * ((b 4).toNat * 19) + (a 4).toNat * ((b 3).toNat * 19) := by simp [accN, rowN, yN]
theorem acc3 : accN a b 5 3 = (a 0).toNat * (b 3).toNat + (a 1).toNat * (b 2).toNat + (a 2).toNat * (b 1).toNat + (a 3).toNat * (b 0).toNat + (a 4).toNat * ((b 4).toNat * 19) := by simp [accN, rowN, yN]
theorem acc4 : accN a b 5 4 = (a 0).toNat * (b 4).toNat + (a 1).toNat * (b 3).toNat + (a 2).toNat * (b 2).toNat + (a 3).toNat * (b 1).toNat + (a 4).toNat * (b 0).toNat := by simp [accN, rowN, yN]
end sums
theorem valprod (a0 a1 a2 a3 a4 b0 b1 b2 b3 b4 X : Nat) : (a0 + a1 * X + a2 * X^2 + a3 * X^3 + a4*X^4) * (b0 + b1 * X + b2 * X^2 + b3 * X^3 + b4*X^4) + 19 * ((a1*b4+a2*b3+a3*b2+a4*b1) + (a2*b4+a3*b3+a4*b2)*X + (a3*b4+a4*b3)*X^2+a4*b4*X^3) =
 (a0 * b0 + a1 * (b4 * 19) + a2 * (b3 * 19) + a3 * (b2 * 19) + a4 * (b1 * 19)) + (a0 * b1 + a1 * b0 + a2 * (b4 * 19) + a3 * (b3 * 19) + a4 * (b2 * 19)) * X + (a0 * b2 + a1 * b1 + a2 * b0 + a3 * (b4 * 19) + a4 * (b3 * 19)) * X^2 + (a0 * b3 + a1 * b2 + a2 * b1 + a3 * b0 + a4 * (b4 * 19)) * X^3 + (a0 * b4 + a1 * b3 + a2 * b2 + a3 * b1 + a4 * b0) * X^4
  + X^5 * ((a1*b4+a2*b3+a3*b2+a4*b1) + (a2*b4+a3*b3+a4*b2)*X + (a3*b4+a4*b3)*X^2+a4*b4*X^3) := by grind
theorem sum_mod (a b : F5) : (accN a b 5 0 + accN a b 5 1 * 2 ^ 51 + accN a b 5 2 * 2 ^ 102 + accN a b 5 3 * 2 ^ 153 + accN a b 5 4 * 2 ^ 204) % p255 = val a * val b % p255 := by
 have h := valprod (a 0).toNat (a 1).toNat (a 2).toNat (a 3).toNat (a 4).toNat (b 0).toNat (b 1).toNat (b 2).toNat (b 3).toNat (b 4).toNat (2 ^ 51)
 rw [← acc0, ← acc1, ← acc2, ← acc3, ← acc4] at h
 rw [show ((2 : Nat) ^ 51) ^ 2 = 2 ^ 102 by decide +kernel, show ((2 : Nat) ^ 51) ^ 3 = 2 ^ 153 by decide +kernel, show ((2 : Nat) ^ 51) ^ 4 = 2 ^ 204 by decide +kernel, show ((2 : Nat) ^ 51) ^ 5 = p255 + 19 by decide +kernel] at h
 have hv : val a * val b = ((a 0).toNat + (a 1).toNat * 2 ^ 51 + (a 2).toNat * 2 ^ 102 + (a 3).toNat * 2 ^ 153 + (a 4).toNat * 2 ^ 204) * ((b 0).toNat + (b 1).toNat * 2 ^ 51 + (b 2).toNat * 2 ^ 102 + (b 3).toNat * 2 ^ 153 + (b 4).toNat * 2 ^ 204) := rfl
 rw [← hv] at h
 generalize val a * val b = v at h ⊢
 generalize ((a 1).toNat * (b 4).toNat + (a 2).toNat * (b 3).toNat + (a 3).toNat * (b 2).toNat + (a 4).toNat * (b 1).toNat + ((a 2).toNat * (b 4).toNat + (a 3).toNat * (b 3).toNat + (a 4).toNat * (b 2).toNat) * 2 ^ 51 + ((a 3).toNat * (b 4).toNat + (a 4).toNat * (b 3).toNat) * 2 ^ 102 + (a 4).toNat * (b 4).toNat * 2 ^ 153) = H at h
 rw [Nat.add_mul] at h
 have h2 : v = accN a b 5 0 + accN a b 5 1 * 2 ^ 51 + accN a b 5 2 * 2 ^ 102 + accN a b 5 3 * 2 ^ 153 + accN a b 5 4 * 2 ^ 204 + p255 * H := by omega
 rw [h2, Nat.add_mul_mod_self_left]
def Tt : Nat := 2 ^ 51 + 2 ^ 17
theorem tt_le : Tt ≤ 2 ^ 52 := by decide
theorem Bnd.mono {M N : Nat} {l : F5} (h : Bnd M l) (hMN : M ≤ N) : Bnd N l := fun q hq => Nat.lt_of_lt_of_le (h q hq) hMN
theorem carF_bt (l : F5) (h : Bnd (2 ^ 63) l) : Bnd Tt (carF l) := fun q hq => by
 obtain ⟨c, _, hc, _, h0, hr⟩ := carF_num l h
 show _ < 2 ^ 51 + 2 ^ 17
 by_cases e : q = 0
 · subst e; rw [h0]; omega
 · have := hr q (by omega) hq; omega
theorem mul_num {a b : F5} (ha : Bnd (2 ^ 52) a) (hb : Bnd (2 ^ 52) b) : val (mulF a b) % p255 = val a * val b % p255 ∧ Bnd Tt (mulF a b) := by
 have hS := fun k hk => acc_num ha hb 5 (Nat.le_refl _) k hk
 have hs := sum_mod a b
 have b4 : accN a b 5 4 ≤ 5 * (2 ^ 52 * 2 ^ 52) := by
   rw [acc4]
   have q : ∀ i j, i < 5 → j < 5 → (a i).toNat * (b j).toNat ≤ 2 ^ 52 * 2 ^ 52 := fun i j hi hj => Nat.mul_le_mul (by have := ha i hi; omega) (by have := hb j hj; omega)
   have q0 := q 0 4 (by omega) (by omega)
   have q1 := q 1 3 (by omega) (by omega)
   have q2 := q 2 2 (by omega) (by omega)
   have q3 := q 3 1 (by omega) (by omega)
   have q4 := q 4 0 (by omega) (by omega)
   omega
 generalize accN a b 5 = S at hS hs b4
 have key : ∀ i, i < 5 → (cC (accA a b 5) (i + 1)).toNat = (S i + (cC (accA a b 5) i).toNat) / 2 ^ 51 ∧ (outM (accA a b 5) 5 i).toNat = (S i + (cC (accA a b 5) i).toNat) % 2 ^ 51 := fun i hi => by
   obtain ⟨h1, h2⟩ := hS i hi
   have hc := (cC (accA a b 5) i).isLt
   have h1' : (accA a b 5 (i * 2)).toNat * 2 ^ 64 + (accA a b 5 (i * 2 + 1)).toNat = S i := h1
   have := cry_num (hi := accA a b 5 (i * 2)) (lo := accA a b 5 (i * 2 + 1)) (c := cC (accA a b 5) i) (by omega)
   rw [h1'] at this
   refine ⟨this.1, ?_⟩
   unfold outM
   rw [if_pos hi]
   exact this.2
 have k0 := key 0 (by omega)
 have k1 := key 1 (by omega)
 have k2 := key 2 (by omega)
 have k3 := key 3 (by omega)
 have k4 := key 4 (by omega)
 have z : (cC (accA a b 5) 0).toNat = 0 := BitVec.toNat_ofNat 0 64
 have hS3 := (hS 3 (by omega)).2
 have hc4 := (cC (accA a b 5) 4).isLt
 have c5 : (cC (accA a b 5) 5).toNat < 2 ^ 58 := by rw [k4.1]; omega
 have e0 : (preM a b 0).toNat = (outM (accA a b 5) 5 0).toNat + 19 * (cC (accA a b 5) 5).toNat := by
   show (upd (outM (accA a b 5) 5) 0 (outM (accA a b 5) 5 0 + 19#64 * cC (accA a b 5) 5) 0).toNat = _
   have hm : (19#64 * cC (accA a b 5) 5).toNat = 19 * (cC (accA a b 5) 5).toNat := by
     rw [mulT (by rw [show (19#64 : BitVec 64).toNat = 19 by decide]; omega), show (19#64 : BitVec 64).toNat = 19 by decide]
   rw [upd_same, addT (by rw [hm, k0.2]; omega), hm]
 have eq : ∀ q, 0 < q → preM a b q = outM (accA a b 5) 5 q := fun q hq => upd_ne _ _ _ _ (by omega)
 have hbd : Bnd (2 ^ 63) (preM a b) := fun q hq => by
   by_cases e : q = 0
   · subst e; rw [e0, k0.2]; omega
   · rw [eq q (by omega), (key q hq).2]; omega
 have hval : val (preM a b) % p255 = val a * val b % p255 := by
   rw [← hs]
   have hP : p255 = 57896044618658097711785492504343953926634992332820282019728792003956564819949 := by decide
   have : val (preM a b) + p255 * (cC (accA a b 5) 5).toNat = S 0 + S 1 * 2 ^ 51 + S 2 * 2 ^ 102 + S 3 * 2 ^ 153 + S 4 * 2 ^ 204 := by
     unfold val
     rw [e0, eq 1 (by omega), eq 2 (by omega), eq 3 (by omega), eq 4 (by omega), k0.2, k1.2, k2.2, k3.2, k4.2, hP]
     rw [z] at k0
     rw [z]
     obtain ⟨j0, -⟩ := k0
     obtain ⟨j1, -⟩ := k1
     obtain ⟨j2, -⟩ := k2
     obtain ⟨j3, -⟩ := k3
     obtain ⟨j4, -⟩ := k4
     clear hs hS key eq hbd e0 b4 hS3 hc4 c5
     generalize (cC (accA a b 5) (0 + 1)).toNat = x1 at *
     generalize (cC (accA a b 5) (1 + 1)).toNat = x2 at *
     generalize (cC (accA a b 5) (2 + 1)).toNat = x3 at *
     generalize (cC (accA a b 5) (3 + 1)).toNat = x4 at *
     generalize (cC (accA a b 5) (4 + 1)).toNat = x5 at *
     generalize S 0 = s0 at *
     generalize S 1 = s1 at *
     generalize S 2 = s2 at *
     generalize S 3 = s3 at *
     generalize S 4 = s4 at *
     omega
   rw [← this, Nat.add_mul_mod_self_left]
 exact ⟨by rw [← hval]; exact carF_mod _ hbd, carF_bt _ hbd⟩
end Go.Proofs.YtjclppnbbpnfnaaDoor
namespace Go.Proofs.YtjclppnbbpnfnaaDoor.Num
set_option linter.unusedSimpArgs false
set_option linter.unusedVariables false
set_option linter.unusedSectionVars false
def ch : Nat → Nat → Nat
 | _, 0 => 1
 | 0, _ + 1 => 0
 | n + 1, k + 1 => ch n k + ch n (k + 1)
end Go.Proofs.YtjclppnbbpnfnaaDoor.Num
namespace Go.Proofs.YtjclppnbbpnfnaaDoor
set_option linter.unusedSimpArgs false
set_option linter.unusedVariables false
set_option linter.unusedSectionVars false
open Go Go.LW
set_option maxRecDepth 10000
instance : NeZero p255 := ⟨by decide⟩
abbrev Fp := Fin p255
def ofN (n : Nat) : Fp := Fin.ofNat p255 n
theorem ofN_val (n : Nat) : (ofN n).val = n % p255 := rfl
theorem ofN_eq {m n : Nat} : ofN m = ofN n ↔ m % p255 = n % p255 := by
 constructor
 · intro h; exact congrArg Fin.val h
 · intro h; exact Fin.ext h
theorem ofN_mul (m n : Nat) : ofN (m * n) = ofN m * ofN n := by
 apply Fin.ext
 rw [Fin.val_mul, ofN_val, ofN_val, ofN_val, ← Nat.mul_mod]
theorem ofN_add (m n : Nat) : ofN (m + n) = ofN m + ofN n := by
 apply Fin.ext
 rw [Fin.val_add, ofN_val, ofN_val, ofN_val, ← Nat.add_mod]
theorem ofN_mod {m n : Nat} (h : m % p255 = n % p255) : ofN m = ofN n := ofN_eq.2 h
theorem ofN_p : ofN p255 = 0 := Fin.ext (Nat.mod_self p255)
def Rp (l : F5) (x : Fp) : Prop := Bnd Tt l ∧ ofN (val l) = x
theorem Rp.b63 {l : F5} {x : Fp} (h : Rp l x) : Bnd (2 ^ 63) l := fun q hq => Nat.lt_of_lt_of_le (h.1 q hq) (by decide)
def ofB (b : Nat → BitVec 8) : Fp := ofN (numB b 32 % 2 ^ 255)
theorem rp_read (b : Nat → BitVec 8) : Rp (readF b) (ofB b) := ⟨fun q hq => Nat.lt_of_lt_of_le (readF_bnd b q hq) (by decide), by rw [readF_val]; rfl⟩
theorem rp_mul {a b : F5} {x y : Fp} (ha : Rp a x) (hb : Rp b y) : Rp (mulF a b) (x * y) := by
 obtain ⟨h1, h2⟩ := mul_num (ha.1.mono tt_le) (hb.1.mono tt_le)
 refine ⟨h2, ?_⟩
 rw [ofN_mod h1, ofN_mul, ha.2, hb.2]
def smallF (n : BitVec 32) : F5 := upd (fun _ => 0#64) 0 (n.setWidth 64)
theorem small_ok (n : BitVec 32) : field_Small n (smallF n) := rfl
theorem small_at (n : BitVec 32) (q : Nat) : (smallF n q).toNat = if q = 0 then n.toNat else 0 := by
 unfold smallF
 rw [upd_at]
 by_cases h : q = 0
 · rw [if_pos h, if_pos h, BitVec.toNat_setWidth, Nat.mod_eq_of_lt (by have := n.isLt; omega)]
 · rw [if_neg h, if_neg h]; exact BitVec.toNat_ofNat 0 64
theorem rp_small (n : BitVec 32) : Rp (smallF n) (ofN n.toNat) := by
 have h := n.isLt
 refine ⟨fun q _ => ?_, ?_⟩
 · rw [small_at]; unfold Tt; split <;> omega
 · unfold val
   rw [small_at, small_at, small_at, small_at, small_at]
   simp
theorem rp_zero : Rp (fun _ => 0#64) 0 := by
 have e0 : (0#64 : BitVec 64).toNat = 0 := BitVec.toNat_ofNat 0 64
 refine ⟨fun q _ => by show (0#64 : BitVec 64).toNat < _; rw [e0]; decide, ?_⟩
 unfold val
 rw [e0]
 rfl
theorem rp_one : Rp (smallF 1#32) 1 := rp_small 1#32
theorem numB_congr' {b b' : Nat → BitVec 8} : ∀ n, (∀ q, q < n → b q = b' q) → numB b n = numB b' n
 | 0, _ => rfl
 | n + 1, h => by simp only [numB]; rw [numB_congr' n fun q hq => h q (by omega), h n (by omega)]
theorem byte_num (b : Nat → BitVec 8) {q : Nat} (hq : q < 32) : (b q).toNat = numB b 32 / 256 ^ q % 256 := by
 have h1 := numB_div b q (32 - q)
 rw [show q + (32 - q) = 32 by omega] at h1
 have h2 := numB_mod (fun j => b (q + j)) 1 (31 - q)
 rw [show 1 + (31 - q) = 32 - q by omega] at h2
 rw [h1, show (256 : Nat) = 256 ^ 1 by decide, h2]
 simp [numB]
theorem eqB_iffN {b b' : Nat → BitVec 8} : eqB 32 b b' = true ↔ numB b 32 = numB b' 32 := by
 constructor
 · intro h; exact numB_congr' 32 (eqB_iff.1 h)
 · intro h
   refine eqB_iff.2 fun q hq => ?_
   apply BitVec.eq_of_toNat_eq
   rw [byte_num b hq, byte_num b' hq, h]
theorem rp_bytes {a : F5} {x : Fp} (h : Rp a x) : numB (bytesF a) 32 = x.val := by
 rw [bytes_num a h.b63, ← h.2]; rfl
def bitN (n : Nat → BitVec 8) (t : Nat) : Prop := ((n (t / 8)) >>> (t % 8)) &&& 1#8 = 1#8
instance (n : Nat → BitVec 8) (t : Nat) : Decidable (bitN n t) := inferInstanceAs (Decidable (_ = _))
def powF (a : F5) (n : Nat → BitVec 8) : Nat → F5
 | 0 => smallF 1#32
 | i + 1 => if bitN n (255 - i) then mulF (mulF (powF a n i) (powF a n i)) a else mulF (powF a n i) (powF a n i)
theorem bitN_iff (n : Nat → BitVec 8) {t : Nat} (ht : t < 256) : bitN n t ↔ numB n 32 / 2 ^ t % 2 = 1 := by
 have h := byte_num n (q := t / 8) (by omega)
 have h1 : (((n (t / 8)) >>> (t % 8)) &&& 1#8).toNat = (n (t / 8)).toNat / 2 ^ (t % 8) % 2 := by
   rw [BitVec.toNat_and, BitVec.toNat_ushiftRight, Nat.shiftRight_eq_div_pow, show (1#8 : BitVec 8).toNat = 2 ^ 1 - 1 by decide, Nat.and_two_pow_sub_one_eq_mod]
 have h2 : (n (t / 8)).toNat / 2 ^ (t % 8) % 2 = numB n 32 / 2 ^ t % 2 := by
   rw [h]
   have e1 : ∀ M s, s < 8 → M % 256 / 2 ^ s % 2 = M / 2 ^ s % 2 := fun M s hs => by
     rcases (by omega : s = 0 ∨ s = 1 ∨ s = 2 ∨ s = 3 ∨ s = 4 ∨ s = 5 ∨ s = 6 ∨ s = 7) with rfl | rfl | rfl | rfl | rfl | rfl | rfl | rfl <;> omega
   rw [e1 _ _ (Nat.mod_lt _ (by decide)), Nat.div_div_eq_div_mul, show (256 : Nat) = 2 ^ 8 by decide, ← Nat.pow_mul, ← Nat.pow_add, Nat.div_add_mod]
 unfold bitN
 constructor
 · intro h3; rw [← h2, ← h1, h3]; rfl
 · intro h3
   apply BitVec.eq_of_toNat_eq
   rw [h1, h2, h3]; rfl
theorem pow_ok (a : F5) (n : Nat → BitVec 8) : field_Elem_Pow a n (powF a n 256) := by
 refine ⟨_, small_ok _, powF a n 256, ?_, rfl⟩
 have h := Iter.count (step := field_Elem_Pow_l0 a n) (x := powF a n 256) (fun i => ((255 : Int) - (i : Int), powF a n i)) 256 (fun i hi => by
   obtain ⟨k, hk, hk2⟩ : ∃ k : Nat, (255 : Int) - (i : Int) = (k : Int) ∧ k = 255 - i := ⟨255 - i, by omega, rfl⟩
   have d1 : ((k : Int).tdiv 8) = ((k / 8 : Nat) : Int) := by rw [Int.tdiv_eq_ediv_of_nonneg (by omega)]; omega
   have d2 : ((k : Int).tmod 8) = ((k % 8 : Nat) : Int) := by rw [Int.tmod_eq_emod_of_nonneg (by omega)]; omega
   have hk8 : k / 8 < 32 := by omega
   unfold field_Elem_Pow_l0; dsimp only
   rw [hk, d1, d2, if_pos (by omega)]
   refine ⟨_, sq_ok _, by omega, by omega, by omega, ?_⟩
   rw [Int.toNat_natCast, Int.toNat_natCast]
   have e : (255 : Int) - ((i + 1 : Nat) : Int) = (k : Int) - 1 := by omega
   rw [e]
   by_cases hb : bitN n k
   · rw [if_pos (show ((n (k / 8)) >>> (k % 8)) &&& 1#8 = 1#8 from hb)]
     refine ⟨_, mul_ok _ _, by omega, ?_⟩
     have e4 : powF a n (i + 1) = mulF (mulF (powF a n i) (powF a n i)) a := by
       show (if bitN n (255 - i) then _ else _) = _
       rw [← hk2, if_pos hb]
     rw [e4]
   · rw [if_neg (show ¬ ((n (k / 8)) >>> (k % 8)) &&& 1#8 = 1#8 from hb)]
     refine ⟨by omega, ?_⟩
     have e4 : powF a n (i + 1) = mulF (powF a n i) (powF a n i) := by
       show (if bitN n (255 - i) then _ else _) = _
       rw [← hk2, if_neg hb]
     rw [e4]) (by
   unfold field_Elem_Pow_l0; dsimp only
   rw [if_neg (by omega)])
 exact h
theorem fpow_add (x : Fp) (m n : Nat) : x ^ (m + n) = x ^ m * x ^ n := by grind
theorem fpow_zero (x : Fp) : x ^ 0 = 1 := by grind
theorem rp_pow {a : F5} {x : Fp} (ha : Rp a x) (n : Nat → BitVec 8) : ∀ i, i ≤ 256 → Rp (powF a n i) (x ^ (numB n 32 / 2 ^ (256 - i)))
 | 0, _ => by
   have h := numB_lt n 32
   rw [Nat.div_eq_of_lt (by rw [show (2 : Nat) ^ (256 - 0) = 256 ^ 32 by decide +kernel]; exact h), fpow_zero]
   exact rp_one
 | i + 1, hi => by
   have ih := rp_pow ha n i (by omega)
   have hb := bitN_iff n (t := 255 - i) (by omega)
   have e : 256 - (i + 1) = 255 - i := by omega
   have e2 : 256 - i = (255 - i) + 1 := by omega
   have hd : numB n 32 / 2 ^ (256 - i) = numB n 32 / 2 ^ (255 - i) / 2 := by rw [e2, Nat.pow_succ, Nat.div_div_eq_div_mul]
   rw [hd] at ih
   rw [e]
   generalize numB n 32 / 2 ^ (255 - i) = M at ih hb ⊢
   show Rp (if bitN n (255 - i) then _ else _) _
   by_cases h : bitN n (255 - i)
   · rw [if_pos h]
     have h1 := hb.1 h
     have := rp_mul (rp_mul ih ih) ha
     have e3 : x ^ (M / 2) * x ^ (M / 2) * x = x ^ M := by
       rw [← fpow_add, show M = (M / 2 + M / 2) + 1 by omega, fpow_add x _ 1, show (M / 2 + M / 2 + 1) / 2 = M / 2 by omega]
       grind
     rw [e3] at this
     exact this
   · rw [if_neg h]
     have h1 : M % 2 = 0 := by
       have : ¬ M % 2 = 1 := fun h2 => h (hb.2 h2)
       omega
     have := rp_mul ih ih
     rw [← fpow_add, show M / 2 + M / 2 = M by omega] at this
     exact this
theorem pow_rp {a : F5} {x : Fp} (ha : Rp a x) (n : Nat → BitVec 8) : ∃ r, field_Elem_Pow a n r ∧ Rp r (x ^ numB n 32) := by
 refine ⟨_, pow_ok a n, ?_⟩
 have := rp_pow ha n 256 (Nat.le_refl _)
 rw [show 256 - 256 = 0 by omega, Nat.pow_zero, Nat.div_one] at this
 exact this
theorem one_ne : (1 : Fp) ≠ 0 := by
 intro h
 have := congrArg Fin.val h
 exact absurd this (by decide +kernel)
end Go.Proofs.YtjclppnbbpnfnaaDoor
namespace Go.Proofs.YtjclppnbbpnfnaaDoor
set_option linter.unusedSimpArgs false
set_option linter.unusedVariables false
set_option linter.unusedSectionVars false
open Go Go.LW
set_option maxRecDepth 10000
def allF (i : Nat) : Nat → BitVec 8 := fun q => if q < i then 255#8 else 0#8
def expF (a b : BitVec 8) : Nat → BitVec 8 := upd (upd (allF 32) 0 a) 31 b
theorem exp_ok (a b : BitVec 8) : field_exponent a b (expF a b) := by
 refine ⟨allF 32, ?_, rfl⟩
 have e : (fun _ => 0#8) = allF 0 := by funext q; unfold allF; rw [if_neg (by omega)]
 rw [e]
 refine Iter.count (fun i => (i, allF i)) 32 (fun i hi => ?_) ?_
 · unfold field_exponent_l0; dsimp only
   rw [if_pos hi]
   have : upd (allF i) i 255#8 = allF (i + 1) := by
     funext q
     rw [upd_at]
     unfold allF
     by_cases h : q = i
     · rw [if_pos h, if_pos (by omega)]
     · rw [if_neg h]
       by_cases h2 : q < i
       · rw [if_pos h2, if_pos (by omega)]
       · rw [if_neg h2, if_neg (by omega)]
   rw [this]
 · unfold field_exponent_l0; dsimp only
   rw [if_neg (by omega)]
theorem exp_inv : numB (expF 235#8 127#8) 32 = p255 - 2 := by decide +kernel
def invN (x : Fp) : Fp := x ^ (p255 - 2)
theorem inv_rp {a : F5} {x : Fp} (ha : Rp a x) : ∃ r, field_Elem_Inv a r ∧ Rp r (invN x) := by
 obtain ⟨r, h1, h2⟩ := pow_rp ha (expF 235#8 127#8)
 rw [exp_inv] at h2
 exact ⟨r, ⟨_, exp_ok _ _, _, h1, rfl⟩, h2⟩
end Go.Proofs.YtjclppnbbpnfnaaDoor
namespace Go.Proofs.YtjclppnbbpnfnaaDoor
set_option linter.unusedSimpArgs false
set_option linter.unusedVariables false
set_option linter.unusedSectionVars false
open Go Go.LW
set_option maxRecDepth 10000
def addA (a b : F5) (i : Nat) : F5 := fun q => if q < i then a q + b q else a q
def addF (a b : F5) : F5 := carF (addA a b 5)
theorem add_ok (a b : F5) : field_Elem_Add a b (addF a b) := by
 refine ⟨addA a b 5, ?_, _, car_ok _, rfl⟩
 have e : addA a b 0 = a := by funext q; unfold addA; rw [if_neg (by omega)]
 have h := Iter.count (step := field_Elem_Add_l0 b) (x := addA a b 5) (fun i => (i, addA a b i)) 5 (fun i hi => by
   unfold field_Elem_Add_l0; dsimp only
   rw [if_pos hi]
   have : upd (addA a b i) i (addA a b i i + b i) = addA a b (i + 1) := by
     funext q
     rw [upd_at]
     unfold addA
     by_cases h : q = i
     · subst h; rw [if_pos rfl, if_neg (by omega), if_pos (by omega)]
     · rw [if_neg h]
       by_cases h2 : q < i
       · rw [if_pos h2, if_pos (by omega)]
       · rw [if_neg h2, if_neg (by omega)]
   rw [this]) (by
   unfold field_Elem_Add_l0; dsimp only
   rw [if_neg (by omega)])
 rw [e] at h
 exact h
theorem rp_add {a b : F5} {x y : Fp} (ha : Rp a x) (hb : Rp b y) : Rp (addF a b) (x + y) := by
 have hq : ∀ q, q < 5 → (addA a b 5 q).toNat = (a q).toNat + (b q).toNat := fun q hq => by
   have h1 := ha.1 q hq
   have h2 := hb.1 q hq
   unfold Tt at h1 h2
   unfold addA
   rw [if_pos hq, BitVec.toNat_add, Nat.mod_eq_of_lt (by omega)]
 have hbd : Bnd (2 ^ 63) (addA a b 5) := fun q hq5 => by
   have h1 := ha.1 q hq5
   have h2 := hb.1 q hq5
   unfold Tt at h1 h2
   rw [hq q hq5]; omega
 refine ⟨carF_bt _ hbd, ?_⟩
 unfold addF
 rw [ofN_mod (carF_mod _ hbd)]
 have : val (addA a b 5) = val a + val b := by
   unfold val
   rw [hq 0 (by omega), hq 1 (by omega), hq 2 (by omega), hq 3 (by omega), hq 4 (by omega)]
   omega
 rw [this, ofN_add, ha.2, hb.2]
def subA (a b : F5) (i : Nat) : F5 := fun q => if q < i then a q + (twice5 q - b q) else a q
def subF (a b : F5) : F5 := carF (subA a b 5)
theorem sub_ok (a b : F5) : field_Elem_Sub a b (subF a b) := by
 refine ⟨subA a b 5, ?_, _, car_ok _, rfl⟩
 have e : subA a b 0 = a := by funext q; unfold subA; rw [if_neg (by omega)]
 have h := Iter.count (step := field_Elem_Sub_l0 b) (x := subA a b 5) (fun i => (i, subA a b i)) 5 (fun i hi => by
   unfold field_Elem_Sub_l0; dsimp only
   rw [if_pos hi]
   have : upd (subA a b i) i (subA a b i i + (twice5 i - b i)) = subA a b (i + 1) := by
     funext q
     rw [upd_at]
     unfold subA
     by_cases h : q = i
     · subst h; rw [if_pos rfl, if_neg (by omega), if_pos (by omega)]
     · rw [if_neg h]
       by_cases h2 : q < i
       · rw [if_pos h2, if_pos (by omega)]
       · rw [if_neg h2, if_neg (by omega)]
   rw [this]) (by
   unfold field_Elem_Sub_l0; dsimp only
   rw [if_neg (by omega)])
 rw [e] at h
 exact h
theorem twice_at : ∀ q, q < 5 → (twice5 q).toNat = if q = 0 then 4503599627370458 else 4503599627370494 := by decide +kernel
theorem rp_sub {a b : F5} {x y : Fp} (ha : Rp a x) (hb : Rp b y) : Rp (subF a b) (x - y) := by
 have hq : ∀ q, q < 5 → (subA a b 5 q).toNat + (b q).toNat = (a q).toNat + (twice5 q).toNat := fun q hq => by
   have h1 := ha.1 q hq
   have h2 := hb.1 q hq
   have h3 := twice_at q hq
   unfold Tt at h1 h2
   unfold subA
   rw [if_pos hq, BitVec.toNat_add, BitVec.toNat_sub, h3]
   split <;> omega
 have hbd : Bnd (2 ^ 63) (subA a b 5) := fun q hq5 => by
   have h1 := ha.1 q hq5
   have h2 := hb.1 q hq5
   have h3 := twice_at q hq5
   have h4 := hq q hq5
   unfold Tt at h1 h2
   rw [h3] at h4
   split at h4 <;> omega
 refine ⟨carF_bt _ hbd, ?_⟩
 unfold subF
 rw [ofN_mod (carF_mod _ hbd)]
 have hp : p255 = 57896044618658097711785492504343953926634992332820282019728792003956564819949 := by decide
 have : val (subA a b 5) + val b = val a + 2 * p255 := by
   have q0 := hq 0 (by omega)
   have q1 := hq 1 (by omega)
   have q2 := hq 2 (by omega)
   have q3 := hq 3 (by omega)
   have q4 := hq 4 (by omega)
   rw [twice_at _ (by omega)] at q0 q1 q2 q3 q4
   rw [if_pos rfl] at q0
   rw [if_neg (by omega)] at q1 q2 q3 q4
   unfold val
   rw [hp]
   omega
 have h2 : ofN (val (subA a b 5)) + y = x := by
   rw [← hb.2, ← ofN_add, this, ofN_add, ha.2, ofN_mul, ofN_p]
   grind
 generalize ofN (val (subA a b 5)) = z at h2 ⊢
 grind
end Go.Proofs.YtjclppnbbpnfnaaDoor
namespace Go.Proofs.YtjclppnbbpnfnaaDoor
set_option linter.unusedSimpArgs false
set_option linter.unusedVariables false
set_option linter.unusedSectionVars false
open Go Go.LW
set_option maxRecDepth 10000
def clampF (k : Nat → BitVec 8) : Nat → BitVec 8 := upd (upd k 0 ((k 0) &&& ~~~(7#8))) 31 ((((upd k 0 ((k 0) &&& ~~~(7#8))) 31) &&& (127#8)) ||| (64#8))
theorem clamp_ok (k : Nat → BitVec 8) : curve_Clamp k (clampF k) := rfl
abbrev F4 := F5 × F5 × F5 × F5
abbrev P1 := Fp × Fp
def Rp4 (l : F4) (P Q : P1) : Prop := Rp l.1 P.1 ∧ Rp l.2.1 P.2 ∧ Rp l.2.2.1 Q.1 ∧ Rp l.2.2.2 Q.2
def dbl (P : P1) : P1 :=
 (((P.1 + P.2) * (P.1 + P.2)) * ((P.1 - P.2) * (P.1 - P.2)), ((P.1 + P.2) * (P.1 + P.2) - (P.1 - P.2) * (P.1 - P.2)) * ((P.1 + P.2) * (P.1 + P.2) + ofN 121665 * ((P.1 + P.2) * (P.1 + P.2) - (P.1 - P.2) * (P.1 - P.2))))
def dadd (u : Fp) (P Q : P1) : P1 :=
 (((Q.1 - Q.2) * (P.1 + P.2) + (Q.1 + Q.2) * (P.1 - P.2)) * ((Q.1 - Q.2) * (P.1 + P.2) + (Q.1 + Q.2) * (P.1 - P.2)),
  u * (((Q.1 - Q.2) * (P.1 + P.2) - (Q.1 + Q.2) * (P.1 - P.2)) * ((Q.1 - Q.2) * (P.1 + P.2) - (Q.1 + Q.2) * (P.1 - P.2))))
theorem dadd_comm (u : Fp) (P Q : P1) : dadd u P Q = dadd u Q P := by
 unfold dadd
 refine Prod.ext ?_ ?_
 · show _ = _; grind
 · show _ = _; grind
def stepF (u : F5) (s : F4) : F4 :=
 let a := addF s.1 s.2.1
 let b := subF s.1 s.2.1
 let c := addF s.2.2.1 s.2.2.2
 let d := subF s.2.2.1 s.2.2.2
 let da := mulF d a
 let cb := mulF c b
 let aa := mulF a a
 let bb := mulF b b
 let f := subF aa bb
 (mulF aa bb, mulF f (addF aa (mulF (smallF 121665#32) f)), mulF (addF da cb) (addF da cb), mulF u (mulF (subF da cb) (subF da cb)))
theorem step_ok (u : F5) (s : F4) : curve_step u s.1 s.2.1 s.2.2.1 s.2.2.2 (stepF u s) :=
 ⟨_, add_ok _ _, _, sub_ok _ _, _, add_ok _ _, _, sub_ok _ _, _, mul_ok _ _, _, mul_ok _ _, _, add_ok _ _, _, sq_ok _, _, sub_ok _ _, _, sq_ok _, _, mul_ok _ _, _, sq_ok _, _, sq_ok _, _, sub_ok _ _, _, mul_ok _ _, _, small_ok _, _, mul_ok _ _, _, add_ok _ _, _, mul_ok _ _, rfl⟩
theorem rp_step {u : F5} {U : Fp} (hu : Rp u U) {s : F4} {P Q : P1} (h : Rp4 s P Q) : Rp4 (stepF u s) (dbl P) (dadd U P Q) := by
 obtain ⟨h1, h2, h3, h4⟩ := h
 have a := rp_add h1 h2
 have b := rp_sub h1 h2
 have c := rp_add h3 h4
 have d := rp_sub h3 h4
 have da := rp_mul d a
 have cb := rp_mul c b
 have aa := rp_mul a a
 have bb := rp_mul b b
 have f := rp_sub aa bb
 exact ⟨rp_mul aa bb, rp_mul f (rp_add aa (rp_mul (rp_small 121665#32) f)), rp_mul (rp_add da cb) (rp_add da cb), rp_mul hu (rp_mul (rp_sub da cb) (rp_sub da cb))⟩
def swF (b : Nat) (s : F4) : F4 := if b = 1 then (s.2.2.1, s.2.2.2, s.1, s.2.1) else s
theorem sw_ok (b : Nat) (hb : b < 2) (s : F4) : curve_swapped ((b : Nat) : Int) s.1 s.2.1 s.2.2.1 s.2.2.2 (swF b s) := by
 obtain ⟨a, b', c, d⟩ := s
 by_cases h : b = 1
 · subst h
   exact ⟨c, a, by unfold field_Swap; rw [if_pos (by decide)], d, b', by unfold field_Swap; rw [if_pos (by decide)], by unfold swF; rw [if_pos rfl]⟩
 · obtain rfl : b = 0 := by omega
   exact ⟨a, c, by unfold field_Swap; rw [if_neg (by decide)], b', d, by unfold field_Swap; rw [if_neg (by decide)], by unfold swF; rw [if_neg (by decide)]⟩
def kbit (k : Nat → BitVec 8) (t : Nat) : Nat := ((k (t / 8)) >>> (t % 8)).toNat &&& 1
theorem kbit_num (k : Nat → BitVec 8) {t : Nat} (ht : t < 256) : kbit k t = numB k 32 / 2 ^ t % 2 := by
 have h := bitN_iff k ht
 unfold kbit
 unfold bitN at h
 have e : ((k (t / 8)) >>> (t % 8)).toNat &&& 1 = ((k (t / 8)) >>> (t % 8)).toNat % 2 := Nat.and_one_is_mod _
 rw [e]
 have h1 : (((k (t / 8)) >>> (t % 8)) &&& 1#8).toNat = ((k (t / 8)) >>> (t % 8)).toNat % 2 := by
   rw [BitVec.toNat_and, show (1#8 : BitVec 8).toNat = 1 by decide, Nat.and_one_is_mod]
 have h2 : ((k (t / 8)) >>> (t % 8)) &&& 1#8 = 1#8 ↔ ((k (t / 8)) >>> (t % 8)).toNat % 2 = 1 := by
   constructor
   · intro h3; rw [← h1, h3]; rfl
   · intro h3
     apply BitVec.eq_of_toNat_eq
     rw [h1, h3]; rfl
 rw [h2] at h
 omega
theorem kbit_lt (k : Nat → BitVec 8) (t : Nat) : kbit k t < 2 := by
 unfold kbit; rw [Nat.and_one_is_mod]; omega
def ladF (k : Nat → BitVec 8) (u : F5) : Nat → Nat × F4
 | 0 => (0, (smallF 1#32, (fun _ => 0#64), u, smallF 1#32))
 | i + 1 => (kbit k (254 - i), stepF u (swF (kbit k (254 - i) ^^^ (ladF k u i).1) (ladF k u i).2))
theorem ladF_lt (k : Nat → BitVec 8) (u : F5) : ∀ i, (ladF k u i).1 < 2
 | 0 => by show 0 < 2; decide
 | i + 1 => kbit_lt k _
theorem xor_lt {a b : Nat} (ha : a < 2) (hb : b < 2) : a ^^^ b < 2 := by
 rcases (by omega : a = 0 ∨ a = 1) with rfl | rfl <;> rcases (by omega : b = 0 ∨ b = 1) with rfl | rfl <;> decide
def mont (K : Nat) (U : Fp) : Nat → P1 × P1
 | 0 => ((1, 0), (U, 1))
 | i + 1 => if K / 2 ^ (254 - i) % 2 = 1 then (dadd U (mont K U i).1 (mont K U i).2, dbl (mont K U i).2) else (dbl (mont K U i).1, dadd U (mont K U i).1 (mont K U i).2)
theorem lad_mont (k : Nat → BitVec 8) {u : F5} {U : Fp} (hu : Rp u U) : ∀ i, i ≤ 255 →
   Rp4 (swF (ladF k u i).1 (ladF k u i).2) (mont (numB k 32) U i).1 (mont (numB k 32) U i).2
 | 0, _ => ⟨rp_one, rp_zero, hu, rp_one⟩
 | i + 1, hi => by
   have ih := lad_mont k hu i (by omega)
   have hk := kbit_num k (t := 254 - i) (by omega)
   have hlt := ladF_lt k u i
   show Rp4 (swF (kbit k (254 - i)) (stepF u (swF (kbit k (254 - i) ^^^ (ladF k u i).1) (ladF k u i).2))) _ _
   unfold mont
   rw [← hk]
   have hb := kbit_lt k (254 - i)
   generalize kbit k (254 - i) = b at *
   generalize (ladF k u i).1 = w at *
   generalize (ladF k u i).2 = s at *
   generalize (mont (numB k 32) U i).1 = P at *
   generalize (mont (numB k 32) U i).2 = Q at *
   have sw : ∀ (s : F4) (P Q : P1), Rp4 s P Q → Rp4 (swF 1 s) Q P := fun s P Q h => ⟨h.2.2.1, h.2.2.2, h.1, h.2.1⟩
   have s0 : ∀ s : F4, swF 0 s = s := fun s => by unfold swF; rw [if_neg (by decide)]
   have s1 : ∀ s : F4, swF 1 (swF 1 s) = s := fun s => by unfold swF; rw [if_pos rfl, if_pos rfl]
   rcases (by omega : b = 0 ∨ b = 1) with rfl | rfl
   · rw [if_neg (by decide), s0, Nat.zero_xor]
     exact rp_step hu ih
   · rw [if_pos rfl]
     have h2 : Rp4 (swF (1 ^^^ w) s) Q P := by
       rcases (by omega : w = 0 ∨ w = 1) with rfl | rfl
       · rw [s0] at ih; exact sw _ _ _ ih
       · have := sw _ _ _ ih
         rw [s1] at this
         rw [show 1 ^^^ 1 = 0 by decide, s0]
         exact this
     have h3 := sw _ _ _ (rp_step hu h2)
     rw [dadd_comm] at h3
     exact h3
def timesN (K : Nat) (U : Fp) : Fp := (mont K U 255).1.1 * invN (mont K U 255).1.2
theorem times_rp (k u : Nat → BitVec 8) : ∃ r, curve_Times k u r ∧ numB r 32 = (timesN (numB (clampF k) 32) (ofB u)).val := by
 have hu := rp_read u
 have hL := lad_mont (clampF k) hu 255 (Nat.le_refl _)
 obtain ⟨j, hj, hJ⟩ := inv_rp hL.2.1
 refine ⟨_, ⟨_, clamp_ok k, _, read_ok u, _, small_ok _, (ladF (clampF k) (readF u) 255).1, (ladF (clampF k) (readF u) 255).2.1, (ladF (clampF k) (readF u) 255).2.2.1, (ladF (clampF k) (readF u) 255).2.2.2.1, (ladF (clampF k) (readF u) 255).2.2.2.2, ?_, _, _, _, _, sw_ok _ (ladF_lt _ _ _) _, j, hj, _, mul_ok _ _, _, bytes_ok _, rfl⟩, rp_bytes (rp_mul hL.1 hJ)⟩
 generalize clampF k = c
 generalize readF u = v
 have h := Iter.count (step := curve_Times_l0 c v) (x := ((ladF c v 255).1, (ladF c v 255).2.1, (ladF c v 255).2.2.1, (ladF c v 255).2.2.2.1, (ladF c v 255).2.2.2.2)) (fun i => ((ladF c v i).1, (254 : Int) - (i : Int), (ladF c v i).2.1, (ladF c v i).2.2.1, (ladF c v i).2.2.2.1, (ladF c v i).2.2.2.2)) 255 (fun i hi => by
   obtain ⟨t, ht, ht2⟩ : ∃ t : Nat, (254 : Int) - (i : Int) = (t : Int) ∧ t = 254 - i := ⟨254 - i, by omega, rfl⟩
   have d1 : ((t : Int).tdiv 8) = ((t / 8 : Nat) : Int) := by rw [Int.tdiv_eq_ediv_of_nonneg (by omega)]; omega
   have d2 : ((t : Int).tmod 8) = ((t % 8 : Nat) : Int) := by rw [Int.tmod_eq_emod_of_nonneg (by omega)]; omega
   have ht8 : t / 8 < 32 := by omega
   unfold curve_Times_l0; dsimp only
   rw [ht, d1, d2, if_pos (by omega), Int.toNat_natCast, Int.toNat_natCast]
   have e : (254 : Int) - ((i + 1 : Nat) : Int) = (t : Int) - 1 := by omega
   rw [e]
   have hk : (((c (t / 8)) >>> (t % 8)).toNat) &&& 1 = kbit c t := rfl
   have hb := kbit_lt c t
   have hl := ladF_lt c v i
   rw [hk]
   have e2 : ladF c v (i + 1) = (kbit c t, stepF v (swF (kbit c t ^^^ (ladF c v i).1) (ladF c v i).2)) := by rw [ht2]; rfl
   refine ⟨by omega, by omega, by omega, by omega, _, _, _, _, sw_ok _ (xor_lt hb hl) (ladF c v i).2, _, _, _, _, step_ok _ (swF (kbit c t ^^^ (ladF c v i).1) (ladF c v i).2), by omega, ?_⟩
   rw [e2]; rfl) (by
   unfold curve_Times_l0; dsimp only
   rw [if_neg (by omega)])
 exact h
end Go.Proofs.YtjclppnbbpnfnaaDoor
namespace Go.Proofs.YtjclppnbbpnfnaaDoor
set_option linter.unusedSimpArgs false
set_option linter.unusedVariables false
set_option linter.unusedSectionVars false
open Go Go.LW
set_option maxRecDepth 10000
end Go.Proofs.YtjclppnbbpnfnaaDoor
namespace Go.Proofs.YtjclppnbbpnfnaaDoor
set_option linter.unusedSimpArgs false
set_option linter.unusedVariables false
set_option linter.unusedSectionVars false
open Go Go.LW
set_option maxRecDepth 10000
def NS (d : Fp) : Prop := ∀ s t : Fp, s * s = d * (t * t) → t = 0
theorem NS.one {d : Fp} (h : NS d) : 1 - d ≠ 0 := fun e => by
 have := h 1 1 (by grind)
 exact one_ne this
end Go.Proofs.YtjclppnbbpnfnaaDoor
namespace Go.Proofs.YtjclppnbbpnfnaaDoor
set_option linter.unusedSimpArgs false
set_option linter.unusedVariables false
set_option linter.unusedSectionVars false
open Go Go.LW
set_option maxRecDepth 10000
end Go.Proofs.YtjclppnbbpnfnaaDoor
namespace Go.Proofs.YtjclppnbbpnfnaaDoor
set_option linter.unusedSimpArgs false
set_option linter.unusedVariables false
set_option linter.unusedSectionVars false
open Go Go.LW
set_option maxRecDepth 10000
end Go.Proofs.YtjclppnbbpnfnaaDoor
namespace Go.Proofs.YtjclppnbbpnfnaaDoor
set_option linter.unusedSimpArgs false
set_option linter.unusedVariables false
set_option linter.unusedSectionVars false
open Go Go.LW
set_option maxRecDepth 10000
def D1 : Fp := ofN 20800338683988658368647408995589388737092878452977063003340006470870624536394
def c1 : Fp := ofN 53349024335595116287218880480235248380932224208407348260407321313250266849793
end Go.Proofs.YtjclppnbbpnfnaaDoor
namespace Go.Proofs.YtjclppnbbpnfnaaDoor.Num
set_option linter.unusedSimpArgs false
set_option linter.unusedVariables false
set_option linter.unusedSectionVars false
end Go.Proofs.YtjclppnbbpnfnaaDoor.Num
namespace Go.Proofs.YtjclppnbbpnfnaaDoor
set_option linter.unusedSimpArgs false
set_option linter.unusedVariables false
set_option linter.unusedSectionVars false
open Go Go.LW
set_option maxRecDepth 10000
end Go.Proofs.YtjclppnbbpnfnaaDoor
namespace Go.Proofs.YtjclppnbbpnfnaaDoor
set_option linter.unusedSimpArgs false
set_option linter.unusedVariables false
set_option linter.unusedSectionVars false
open Go Go.LW
set_option maxRecDepth 10000
theorem clampA (k : Nat → BitVec 8) (q : Nat) : clampF k q = if q = 31 then (k 31 &&& 127#8) ||| 64#8 else if q = 0 then k 0 &&& ~~~7#8 else k q := by
 unfold clampF
 rw [upd_at]
 by_cases h : q = 31
 · rw [if_pos h, if_pos h, upd_ne _ _ _ _ (by omega)]
 · rw [if_neg h, if_neg h, upd_at]
theorem clampE (k k' : Nat → BitVec 8) (h : ∀ q, q < 32 → k q = k' q) : ∀ q, q < 32 → clampF k q = clampF k' q := fun q hq => by
 rw [clampA k, clampA k', h 31 (by omega), h 0 (by omega), h q hq]
noncomputable def tmR (k u : Nat → Byte) : Nat → Byte := (times_rp k u).choose
theorem tm_ok (k u : Nat → Byte) : curve_Times k u (tmR k u) := (times_rp k u).choose_spec.1
theorem tm_num (k u : Nat → Byte) : numB (tmR k u) 32 = (timesN (numB (clampF k) 32) (ofB u)).val := (times_rp k u).choose_spec.2
noncomputable def shE (k u : Nat → Byte) : Nat := if eqB 32 (tmR k u) (fun _ => 0#8) = true then 70 else 0
theorem sh_ok (k u : Nat → Byte) : curve_Shared k u (tmR k u, shE k u) := by
 refine ⟨_, tm_ok k u, ?_⟩
 unfold shE
 by_cases h : eqB 32 (tmR k u) (fun _ => 0#8) = true
 · rw [if_pos h, if_pos h]
 · rw [if_neg h, if_neg h]
theorem shE_or (k u : Nat → Byte) : shE k u = 0 ∨ shE k u = 70 := by
 unfold shE; split
 · exact .inr rfl
 · exact .inl rfl
end Go.Proofs.YtjclppnbbpnfnaaDoor
namespace Go.Proofs.YtjclppnbbpnfnaaDoor
set_option linter.unusedSimpArgs false
set_option linter.unusedVariables false
set_option linter.unusedSectionVars false
open Go Go.LW
theorem iter_go {S X : Type} {step : S → S ⊕ X → Prop} (J : S → Prop) (Q : X → Prop) (μ : S → Nat)
   (h : ∀ s, J s → (∃ x, step s (.inr x) ∧ Q x) ∨ ∃ s', step s (.inl s') ∧ J s' ∧ μ s' < μ s) : ∀ n s, μ s < n → J s → ∃ x, Iter step s x ∧ Q x
 | 0, s, hn, _ => absurd hn (Nat.not_lt_zero _)
 | n + 1, s, hn, hJ => by
   rcases h s hJ with ⟨x, hx, hQ⟩ | ⟨s', hs, hJ', hm⟩
   · exact ⟨x, .done hx, hQ⟩
   · obtain ⟨x, hx, hQ⟩ := iter_go J Q μ h n s' (by omega) hJ'
     exact ⟨x, .more hs hx, hQ⟩
theorem lext {X Y : List Byte} (hl : X.length = Y.length) (h : ∀ q, q < X.length → lit X q = lit Y q) : X = Y := by
 rw [← lit_of X, ← lit_of Y, ← hl]
 exact List.map_congr_left fun q hq => h q (List.mem_range.1 hq)
theorem dl_congr {m : Nat} {f g : Nat → Byte} (h : ∀ q, q < m → f q = g q) : dl m f = dl m g := List.map_congr_left fun q hq => h q (List.mem_range.1 hq)
theorem rot_mask : ∀ n : Fin 32, 0 < n.val → (BitVec.ofInt 64 (-(n.val : Int)) &&& 31#64).toNat = 32 - n.val ∧ ((32#64) - (BitVec.ofInt 64 (-(n.val : Int)) &&& 31#64)).toNat = n.val := by decide +kernel
theorem right_ok (n : Nat) (h0 : 0 < n) (h1 : n < 32) (x : BitVec 32) : sha_right (n : Int) x (x.rotateRight n) := by
 refine ⟨by omega, _, rfl, ?_⟩
 obtain ⟨e1, e2⟩ := rot_mask ⟨n, h1⟩ h0
 rw [e1, e2, BitVec.rotateRight_def, Nat.mod_eq_of_lt h1, BitVec.or_comm]
theorem lit8 (s : H8) : ∀ i, i < 8 → lit [s.a, s.b, s.c, s.d, s.e, s.f, s.g, s.h] i = s.at i := fun i hi => by
 rcases (by omega : i = 0 ∨ i = 1 ∨ i = 2 ∨ i = 3 ∨ i = 4 ∨ i = 5 ∨ i = 6 ∨ i = 7) with rfl | rfl | rfl | rfl | rfl | rfl | rfl | rfl <;> rfl
theorem comp_ok (st : Nat → BitVec 32) (blk : Nat → BitVec 8) : sha_Compress st blk (compress K256 st blk) := by
 refine ⟨wbeg blk 16, ?_, wext blk 48, ?_, ?_⟩
 · refine Iter.count (fun i => (i, wbeg blk i)) 16 (fun i hi => ?_) ?_
   · unfold sha_Compress_l0; dsimp only; rw [if_pos hi]; rfl
   · unfold sha_Compress_l0; dsimp only; rw [if_neg (by omega)]
 · refine Iter.count (fun i => (16 + i, wext blk i)) 48 (fun i hi => ?_) ?_
   · unfold sha_Compress_l1; dsimp only
     rw [if_pos (by omega), show (((16 + i : Nat) : Int) - 2).toNat = 16 + i - 2 by omega, show (((16 + i : Nat) : Int) - 15).toNat = 16 + i - 15 by omega,
       show (((16 + i : Nat) : Int) - 7).toNat = 16 + i - 7 by omega, show (((16 + i : Nat) : Int) - 16).toNat = 16 + i - 16 by omega]
     exact ⟨by omega, by omega, by omega, by omega, _, right_ok 17 (by decide) (by decide) _, _, right_ok 19 (by decide) (by decide) _, _, right_ok 7 (by decide) (by decide) _, _, right_ok 18 (by decide) (by decide) _, rfl⟩
   · unfold sha_Compress_l1; dsimp only; rw [if_neg (by omega)]
 · refine ⟨ (rounds K256 (wext blk 48) (H8.of st) 64).a, (rounds K256 (wext blk 48) (H8.of st) 64).b, (rounds K256 (wext blk 48) (H8.of st) 64).c, (rounds K256 (wext blk 48) (H8.of st) 64).d, (rounds K256 (wext blk 48) (H8.of st) 64).e, (rounds K256 (wext blk 48) (H8.of st) 64).f, (rounds K256 (wext blk 48) (H8.of st) 64).g, (rounds K256 (wext blk 48) (H8.of st) 64).h, ?_, addTo st (rounds K256 (wext blk 48) (H8.of st) 64).at 8, ?_, rfl⟩
   · exact Iter.count (fun i =>
       ((rounds K256 (wext blk 48) (H8.of st) i).a, (rounds K256 (wext blk 48) (H8.of st) i).b, (rounds K256 (wext blk 48) (H8.of st) i).c, (rounds K256 (wext blk 48) (H8.of st) i).d, (rounds K256 (wext blk 48) (H8.of st) i).e, (rounds K256 (wext blk 48) (H8.of st) i).f, (rounds K256 (wext blk 48) (H8.of st) i).g, (rounds K256 (wext blk 48) (H8.of st) i).h, i)) 64 (fun i hi => by
       unfold sha_Compress_l2; dsimp only; rw [if_pos hi]
       exact ⟨_, right_ok 6 (by decide) (by decide) _, _, right_ok 11 (by decide) (by decide) _, _, right_ok 25 (by decide) (by decide) _, _, right_ok 2 (by decide) (by decide) _, _, right_ok 13 (by decide) (by decide) _, _, right_ok 22 (by decide) (by decide) _, rfl⟩) (by
       unfold sha_Compress_l2; dsimp only; rw [if_neg (by omega)])
   · refine Iter.count (fun i => (i, addTo st (rounds K256 (wext blk 48) (H8.of st) 64).at i)) 8 (fun i hi => ?_) ?_
     · unfold sha_Compress_l3; dsimp only; rw [if_pos hi, lit8 _ i hi]; rfl
     · unfold sha_Compress_l3; dsimp only; rw [if_neg (by omega)]
def Hold (X : List Byte) (st : Nat → BitVec 32) (blk : Nat → BitVec 8) : Prop := HashIs K256 H256 X.length (lit X) st blk
theorem Hold.nil : Hold [] H256 (fun _ => 0#8) := HashIs.zero _ _ _ _
theorem tmod_nat (N : Nat) : ((N : Int).tmod 64) = ((N % 64 : Nat) : Int) := by rw [Int.tmod_eq_emod_of_nonneg (by omega)]; omega
theorem spl_lit (X Y : List Byte) {c : Nat} (hc : c ≤ Y.length) : ∀ q, q < X.length + c → spl (lit X) X.length c (lit Y) q = lit (X ++ seg Y 0 c) q := fun q hq => by
 rw [lit_app]
 by_cases h : q < X.length
 · rw [if_pos h, spl_out _ _ _ _ _ (by omega)]
 · rw [if_neg h, spl_in _ _ _ _ _ (by omega), lit_seg hc (by omega), Nat.zero_add]
theorem write_ok {X Y : List Byte} {st : Nat → BitVec 32} {blk : Nat → BitVec 8} (h : Hold X st blk) (hl : X.length + Y.length < 4611686018427387904) :
   ∃ st' blk', sha_Hash_Write st blk (X.length : Int) Y (st', blk', ((X ++ Y).length : Int)) ∧ Hold (X ++ Y) st' blk' := by
 obtain ⟨⟨st', blk', n'⟩, hI, hn, hH⟩ := iter_go (step := sha_Hash_Write_l0)
   (fun s : (List Byte) × (Nat → BitVec 32) × (Nat → BitVec 8) × Int => ∃ Z, Z ++ s.1 = X ++ Y ∧ Hold Z s.2.1 s.2.2.1 ∧ s.2.2.2 = (Z.length : Int))
   (fun x : (Nat → BitVec 32) × (Nat → BitVec 8) × Int => x.2.2 = ((X ++ Y).length : Int) ∧ Hold (X ++ Y) x.1 x.2.1) (fun s => s.1.length) (by
   rintro ⟨b, st, blk, n⟩ ⟨Z, hZ, hH, rfl⟩
   have hZl : Z.length + b.length = X.length + Y.length := by rw [← List.length_append, hZ, List.length_append]
   unfold sha_Hash_Write_l0
   dsimp only at hZ hH ⊢
   by_cases hb : 0 < b.length
   · refine .inr ?_
     rw [tmod_nat, show ((Z.length % 64 : Nat) : Int).toNat = Z.length % 64 from rfl]
     have hm : min b.length (64 - Z.length % 64) ≤ b.length := Nat.min_le_left _ _
     have hm2 : min b.length (64 - Z.length % 64) ≤ 64 - Z.length % 64 := Nat.min_le_right _ _
     have hm3 : 0 < min b.length (64 - Z.length % 64) := by omega
     generalize hc : min b.length (64 - Z.length % 64) = c at hm hm2 hm3
     have e1 : (Z.length : Int) + (c : Int) = ((Z.length + c : Nat) : Int) := by omega
     have hsl : (seg b 0 c).length = c := by rw [seg_length hm]; omega
     have hll : (Z ++ seg b 0 c).length = Z.length + c := by rw [List.length_append, hsl]
     have hcat : (Z ++ seg b 0 c) ++ seg b c b.length = X ++ Y := by rw [List.append_assoc, seg_app ⟨by omega, hm, Nat.le_refl _⟩, seg_all]; exact hZ
     have hlt : (seg b c b.length).length < b.length := by rw [seg_length (Nat.le_refl _)]; omega
     simp only [if_pos hb]
     rw [e1, tmod_nat]
     by_cases hw : (Z.length + c) % 64 = 0
     · refine ⟨(seg b c b.length, compress K256 st (spl blk (Z.length % 64) c (lit b)), spl blk (Z.length % 64) c (lit b), ((Z.length + c : Nat) : Int)), ⟨by omega, by omega, by omega, by omega, ?_⟩, ⟨_, hcat, ?_, ?_⟩, hlt⟩
       · rw [if_pos (by omega)]; exact ⟨_, comp_ok _ _, rfl⟩
       · have := HashIs.congr (HashIs.whole (g := lit b) hH (show Z.length % 64 + c = 64 by omega)) (spl_lit Z b hm)
         unfold Hold; rw [hll]; exact this
       · rw [hll]
     · refine ⟨(seg b c b.length, st, spl blk (Z.length % 64) c (lit b), ((Z.length + c : Nat) : Int)), ⟨by omega, by omega, by omega, by omega, ?_⟩, ⟨_, hcat, ?_, ?_⟩, hlt⟩
       · rw [if_neg (by omega)]
       · have := HashIs.congr (HashIs.part (g := lit b) hH (show Z.length % 64 + c < 64 by omega)) (spl_lit Z b hm)
         unfold Hold; rw [hll]; exact this
       · rw [hll]
   · refine .inl ⟨_, by rw [if_neg hb], ?_⟩
     obtain rfl : b = [] := List.length_eq_zero_iff.1 (by omega)
     rw [List.append_nil] at hZ
     subst hZ
     exact ⟨rfl, hH⟩) (Y.length + 1) (Y, st, blk, (X.length : Int)) (Nat.lt_succ_self _) ⟨X, rfl, h, rfl⟩
 dsimp only at hn hH
 subst hn
 exact ⟨st', blk', ⟨_, _, _, hI, rfl⟩, hH⟩
def lenb (N i : Nat) : Byte := (((8#64) * (BitVec.ofNat 64 N)) >>> (56 - 8 * i)).setWidth 8
def pad0 (X : List Byte) : List Byte := X ++ 128#8 :: List.replicate ((119 - X.length % 64) % 64) 0#8
def padB (X : List Byte) : List Byte := pad0 X ++ (List.range 8).map (lenb X.length)
def shaL (X : List Byte) : Nat → Byte := dgb (hstN K256 H256 (lit (padB X)) ((padB X).length / 64)) 8
theorem pad0_length (X : List Byte) : (pad0 X).length = X.length + 1 + (119 - X.length % 64) % 64 := by
 unfold pad0; rw [List.length_append, List.length_cons, List.length_replicate]; omega
theorem dgb_congr {s s' : Nat → BitVec 32} : ∀ k, (∀ i, i < k → s i = s' i) → dgb s k = dgb s' k
 | 0, _ => rfl
 | k + 1, h => by simp only [dgb]; rw [dgb_congr k fun i hi => h i (by omega), h k (by omega)]
theorem sumdig_ok {X : List Byte} {st : Nat → BitVec 32} {blk : Nat → BitVec 8} (h : Hold X st blk) (hl : X.length < 2305843009213693952) :
   sha_Hash_Sum st blk (X.length : Int) (shaL X) := by
 obtain ⟨s1, b1, w1, h1⟩ := write_ok (Y := [128#8]) h (by simp only [List.length_cons, List.length_nil]; omega)
 refine ⟨_, _, _, rfl, _, _, _, w1, ?_⟩
 obtain ⟨⟨s2, b2, n2⟩, hI, hn, h2⟩ := iter_go (step := sha_Hash_Sum_l0)
   (fun s : (Nat → BitVec 32) × (Nat → BitVec 8) × Int => ∃ k, k ≤ (119 - X.length % 64) % 64 ∧ Hold (X ++ 128#8 :: List.replicate k 0#8) s.1 s.2.1 ∧ s.2.2 = ((X.length + 1 + k : Nat) : Int))
   (fun x : (Nat → BitVec 32) × (Nat → BitVec 8) × Int => x.2.2 = ((pad0 X).length : Int) ∧ Hold (pad0 X) x.1 x.2.1) (fun s => 1000000 + X.length - s.2.2.toNat) (by
   rintro ⟨st, blk, n⟩ ⟨k, hk, hH, hn⟩
   dsimp only at hH hn ⊢
   subst hn
   unfold sha_Hash_Sum_l0
   dsimp only
   rw [tmod_nat]
   have hL : (X ++ 128#8 :: List.replicate k 0#8).length = X.length + 1 + k := by rw [List.length_append, List.length_cons, List.length_replicate]; omega
   by_cases hw : (X.length + 1 + k) % 64 = 56
   · refine .inl ⟨_, by rw [if_neg (by omega)], ?_⟩
     have : k = (119 - X.length % 64) % 64 := by omega
     dsimp only
     rw [pad0_length, ← this]
     refine ⟨rfl, ?_⟩
     unfold pad0; rw [← this]; exact hH
   · obtain ⟨s3, b3, w3, h3⟩ := write_ok (Y := [0#8]) hH (by rw [hL, List.length_cons, List.length_nil]; omega)
     rw [hL] at w3
     have e3 : (X ++ 128#8 :: List.replicate k 0#8) ++ [0#8] = X ++ 128#8 :: List.replicate (k + 1) 0#8 := by
       rw [List.append_assoc, List.cons_append, ← List.replicate_succ']
     rw [e3] at w3 h3
     refine .inr ⟨_, by rw [if_pos (by omega)]; exact ⟨_, _, _, w3, rfl⟩, ⟨k + 1, by omega, h3, ?_⟩, ?_⟩
     · dsimp only; rw [List.length_append, List.length_cons, List.length_replicate]; omega
     · dsimp only; rw [List.length_append, List.length_cons, List.length_replicate]; omega) (1000001 + X.length) (s1, b1, ((X ++ [128#8]).length : Int)) (by dsimp only; omega) ⟨0, Nat.zero_le _, h1, by dsimp only; rw [List.length_append]; rfl⟩
 dsimp only at hn h2
 subst hn
 refine ⟨_, _, _, hI, ?_⟩
 obtain ⟨⟨s4, b4, n4⟩, hI4, hn4, h4⟩ := iter_go (step := sha_Hash_Sum_l1 (X.length : Int))
   (fun s : Nat × (Nat → BitVec 32) × (Nat → BitVec 8) × Int => s.1 ≤ 8 ∧ Hold (pad0 X ++ (List.range s.1).map (lenb X.length)) s.2.1 s.2.2.1 ∧ s.2.2.2 = (((pad0 X).length + s.1 : Nat) : Int))
   (fun x : (Nat → BitVec 32) × (Nat → BitVec 8) × Int => x.2.2 = ((padB X).length : Int) ∧ Hold (padB X) x.1 x.2.1) (fun s => 8 - s.1) (by
   rintro ⟨t, st, blk, n⟩ ⟨ht, hH, hn⟩
   dsimp only at ht hH hn ⊢
   subst hn
   unfold sha_Hash_Sum_l1
   dsimp only
   have hL : (pad0 X ++ (List.range t).map (lenb X.length)).length = (pad0 X).length + t := by rw [List.length_append, List.length_map, List.length_range]
   by_cases hw : t < 8
   · obtain ⟨s3, b3, w3, h3⟩ := write_ok (Y := [lenb X.length t]) hH (by rw [hL, List.length_cons, List.length_nil, pad0_length]; omega)
     rw [hL] at w3
     have e3 : (pad0 X ++ (List.range t).map (lenb X.length)) ++ [lenb X.length t] = pad0 X ++ (List.range (t + 1)).map (lenb X.length) := by
       rw [List.append_assoc, List.range_succ, List.map_append]; rfl
     rw [e3] at w3 h3
     refine .inr ⟨_, by rw [if_pos hw]; exact ⟨_, _, _, by simpa only [lenb, BitVec.ofInt_natCast] using w3, rfl⟩, ⟨by dsimp only; omega, h3, ?_⟩, by dsimp only; omega⟩
     dsimp only; rw [List.length_append, List.length_map, List.length_range]
   · refine .inl ⟨_, by rw [if_neg hw], ?_⟩
     obtain rfl : t = 8 := by omega
     exact ⟨by dsimp only; unfold padB; rw [List.length_append, List.length_map, List.length_range], hH⟩) 9 (0, s2, b2, ((pad0 X).length : Int)) (by dsimp only; omega) ⟨Nat.zero_le _, by simpa using h2, rfl⟩
 dsimp only at hn4 h4
 subst hn4
 refine ⟨_, _, _, hI4, dgb s4 8, ?_, ?_⟩
 · refine Iter.count (fun i => (i, dgb s4 i)) 8 (fun i hi => ?_) ?_
   · unfold sha_Hash_Sum_l2; dsimp only; rw [if_pos hi]; rfl
   · unfold sha_Hash_Sum_l2; dsimp only; rw [if_neg (by omega)]
 · exact dgb_congr 8 fun i hi => (h4.st_ i hi).symm
theorem flatten_take {P : List (List Byte)} {t : Nat} (h : t < P.length) : (P.take (t + 1)).flatten = (P.take t).flatten ++ P.getD t [] := by
 rw [List.take_succ_eq_append_getElem h, List.flatten_append]
 simp [List.getD, h]
theorem flatten_len (P : List (List Byte)) (t : Nat) : (P.take t).flatten.length ≤ P.flatten.length := by
 conv => rhs; rw [← List.take_append_drop t P, List.flatten_append, List.length_append]
 omega
theorem sum_ok {P : List (List Byte)} (hp : P.length < 4611686018427387904) (hl : P.flatten.length < 2305843009213693952) : sha_Sum P (shaL P.flatten) := by
 refine ⟨_, _, _, rfl, ?_⟩
 obtain ⟨⟨s2, b2, n2⟩, hI, hn, h2⟩ := iter_go (step := sha_Sum_l0 P)
   (fun s : Nat × (Nat → BitVec 32) × (Nat → BitVec 8) × Int => s.1 ≤ P.length ∧ Hold (P.take s.1).flatten s.2.1 s.2.2.1 ∧ s.2.2.2 = ((P.take s.1).flatten.length : Int))
   (fun x : (Nat → BitVec 32) × (Nat → BitVec 8) × Int => x.2.2 = (P.flatten.length : Int) ∧ Hold P.flatten x.1 x.2.1) (fun s => P.length - s.1) (by
   rintro ⟨t, st, blk, n⟩ ⟨ht, hH, hn⟩
   dsimp only at ht hH hn ⊢
   subst hn
   unfold sha_Sum_l0
   dsimp only
   by_cases hw : t < P.length
   · have hf := flatten_take hw
     have hfl := flatten_len P (t + 1)
     rw [hf, List.length_append] at hfl
     obtain ⟨s3, b3, w3, h3⟩ := write_ok (Y := P.getD t []) hH (by omega)
     rw [← hf] at w3 h3
     exact .inr ⟨_, by rw [if_pos hw]; exact ⟨hw, _, _, _, w3, by omega, rfl⟩, ⟨by dsimp only; omega, h3, rfl⟩, by dsimp only; omega⟩
   · refine .inl ⟨_, by rw [if_neg hw], ?_⟩
     obtain rfl : t = P.length := by omega
     rw [List.take_length] at hH ⊢
     exact ⟨rfl, hH⟩) (P.length + 1) (0, H256, (fun _ => 0#8), ((0 : Nat) : Int)) (by dsimp only; omega) ⟨Nat.zero_le _, Hold.nil, rfl⟩
 dsimp only at hn h2
 subst hn
 exact ⟨_, _, _, hI, _, sumdig_ok h2 hl, rfl⟩
end Go.Proofs.YtjclppnbbpnfnaaDoor
namespace Go.Proofs.YtjclppnbbpnfnaaDoor
set_option linter.unusedSimpArgs false
set_option linter.unusedVariables false
set_option linter.unusedSectionVars false
open Go Go.LW
set_option linter.unusedVariables false
def keyK (X : List Byte) : List Byte := if 64 < X.length then dl 32 (shaL X) else X
def padK (X : List Byte) (x : Byte) : List Byte := dl 64 fun q => lit (keyK X) q ^^^ x
def macL (X Z : List Byte) : Nat → Byte := shaL (padK X 92#8 ++ dl 32 (shaL (padK X 54#8 ++ Z)))
theorem padK_length (X : List Byte) (x : Byte) : (padK X x).length = 64 := dl_length _ _
theorem lit_out {X : List Byte} {q : Nat} (h : X.length ≤ q) : lit X q = 0#8 := by unfold lit; simp [List.getD, h]
def xorN (f : Nat → Byte) (x : Byte) (t : Nat) : Nat → Byte := fun q => if q < t then f q ^^^ x else f q
theorem xorN_succ (f : Nat → Byte) (x : Byte) (t : Nat) : upd (xorN f x t) t (xorN f x t t ^^^ x) = xorN f x (t + 1) := by
 funext q
 rw [upd_at]
 unfold xorN
 by_cases h : q = t
 · subst h; rw [if_pos rfl, if_neg (by omega), if_pos (by omega)]
 · rw [if_neg h]
   by_cases h2 : q < t
   · rw [if_pos h2, if_pos (by omega)]
   · rw [if_neg h2, if_neg (by omega)]
theorem pad_at (K : List Byte) (x : Byte) {c : Nat} (hc : c = K.length) : ∀ q, q < 64 → xorN (spl (fun _ => 0#8) 0 c (lit K)) x 64 q = lit K q ^^^ x := fun q hq => by
 subst hc
 unfold xorN
 rw [if_pos hq]
 by_cases h : q < K.length
 · rw [spl_in _ _ _ _ _ (by omega), Nat.sub_zero]
 · rw [spl_out _ _ _ _ _ (by omega), lit_out (by omega)]
theorem padded_ok {X : List Byte} (hl : X.length < 2305843009213693952) (x : Byte) : kdf_padded X x (padK X x) := by
 unfold kdf_padded
 by_cases h : 64 < X.length
 · rw [if_pos h]
   refine ⟨_, sum_ok (by simp) (by simpa using hl), xorN (spl (fun _ => 0#8) 0 32 (lit (dl 32 (shaL X)))) x 64, ?_, ?_⟩
   · simp only [List.flatten_cons, List.flatten_nil, List.append_nil]
     refine Iter.count (fun i => (i, xorN (spl (fun _ => 0#8) 0 32 (lit (dl 32 (shaL X)))) x i)) 64 (fun i hi => ?_) ?_
     · unfold kdf_padded_l0; dsimp only; rw [if_pos hi, xorN_succ]
     · unfold kdf_padded_l0; dsimp only; rw [if_neg (by omega)]
   · unfold padK keyK
     rw [if_pos h]
     exact (dl_congr (pad_at _ x (dl_length _ _).symm)).symm
 · rw [if_neg h]
   refine ⟨xorN (spl (fun _ => 0#8) 0 (min X.length 64) (lit X)) x 64, ?_, ?_⟩
   · refine Iter.count (fun i => (i, xorN (spl (fun _ => 0#8) 0 (min X.length 64) (lit X)) x i)) 64 (fun i hi => ?_) ?_
     · unfold kdf_padded_l1; dsimp only; rw [if_pos hi, xorN_succ]
     · unfold kdf_padded_l1; dsimp only; rw [if_neg (by omega)]
   · unfold padK keyK
     rw [if_neg h]
     exact (dl_congr (pad_at _ x (by omega))).symm
theorem mac_ok {X : List Byte} {P : List (List Byte)} (hx : X.length < 2305843009213693952) (hp : P.length < 4611686018427387904) (hl : P.flatten.length < 1152921504606846976) : kdf_Mac X P (macL X P.flatten) := by
 have hpad := padded_ok hx 54#8
 have hpl := padK_length X 54#8
 unfold macL
 generalize padK X 54#8 = K at hpad hpl ⊢
 obtain ⟨s1, b1, w1, h1⟩ := write_ok (Y := K) Hold.nil (by rw [hpl]; decide)
 rw [List.nil_append] at w1 h1
 refine ⟨_, _, _, rfl, _, hpad, _, _, _, w1, ?_⟩
 obtain ⟨⟨s2, b2, n2⟩, hI, hn, h2⟩ := iter_go (step := kdf_Mac_l0 P)
   (fun s : Nat × (Nat → BitVec 32) × (Nat → BitVec 8) × Int => s.1 ≤ P.length ∧ Hold (K ++ (P.take s.1).flatten) s.2.1 s.2.2.1 ∧ s.2.2.2 = ((K ++ (P.take s.1).flatten).length : Int))
   (fun x : (Nat → BitVec 32) × (Nat → BitVec 8) × Int => x.2.2 = ((K ++ P.flatten).length : Int) ∧ Hold (K ++ P.flatten) x.1 x.2.1) (fun s => P.length - s.1) (by
   rintro ⟨t, st, blk, n⟩ ⟨ht, hH, hn⟩
   dsimp only at ht hH hn ⊢
   subst hn
   unfold kdf_Mac_l0
   dsimp only
   by_cases hw : t < P.length
   · have hf := flatten_take hw
     have hfl := flatten_len P (t + 1)
     rw [hf, List.length_append] at hfl
     obtain ⟨s3, b3, w3, h3⟩ := write_ok (Y := P.getD t []) hH (by rw [List.length_append, hpl]; omega)
     rw [List.append_assoc, ← hf] at w3 h3
     exact .inr ⟨_, by rw [if_pos hw]; exact ⟨hw, _, _, _, w3, by omega, rfl⟩, ⟨by dsimp only; omega, h3, rfl⟩, by dsimp only; omega⟩
   · refine .inl ⟨_, by rw [if_neg hw], ?_⟩
     obtain rfl : t = P.length := by omega
     rw [List.take_length] at hH ⊢
     exact ⟨rfl, hH⟩) (P.length + 1) (0, s1, b1, ((K).length : Int)) (by dsimp only; omega) ⟨Nat.zero_le _, by dsimp only; rw [List.take_zero, List.flatten_nil, List.append_nil]; exact h1, by dsimp only; rw [List.take_zero, List.flatten_nil, List.append_nil]⟩
 dsimp only at hn h2
 subst hn
 refine ⟨_, _, _, hI, _, sumdig_ok h2 (by rw [List.length_append, hpl]; omega), _, padded_ok hx _, _, sum_ok (by simp) (by simp only [List.flatten_cons, List.flatten_nil, List.append_nil, List.length_append, padK_length, dl_length]; decide), ?_⟩
 simp only [List.flatten_cons, List.flatten_nil, List.append_nil]
theorem extract_ok {X Z : List Byte} (hx : X.length < 2305843009213693952) (hl : Z.length < 1152921504606846976) : kdf_Extract X Z (macL X Z) := by
 have := mac_ok (P := [Z]) hx (by simp) (by simpa using hl)
 simp only [List.flatten_cons, List.flatten_nil, List.append_nil] at this
 exact ⟨_, this, rfl⟩
def expT (prk info : List Byte) : Nat → List Byte
 | 0 => []
 | i + 1 => dl 32 (macL prk (expT prk info i ++ (info ++ [BitVec.ofNat 8 (i + 1)])))
def expO (prk info : List Byte) : Nat → List Byte
 | 0 => []
 | i + 1 => expO prk info i ++ expT prk info (i + 1)
theorem expT_length (prk info : List Byte) : ∀ i, (expT prk info (i + 1)).length = 32 := fun i => dl_length _ _
theorem expT_le (prk info : List Byte) : ∀ i, (expT prk info i).length ≤ 32
 | 0 => Nat.zero_le _
 | i + 1 => by rw [expT_length]; omega
theorem expO_length (prk info : List Byte) : ∀ i, (expO prk info i).length = 32 * i
 | 0 => rfl
 | i + 1 => by show (expO prk info i ++ expT prk info (i + 1)).length = _; rw [List.length_append, expO_length prk info i, expT_length]; omega
def expL (prk info : List Byte) (n : Nat) : List Byte := seg (expO prk info ((n + 31) / 32)) 0 n
theorem expL_length (prk info : List Byte) (n : Nat) : (expL prk info n).length = n := by
 unfold expL; rw [seg_length (by rw [expO_length]; omega)]; omega
theorem expand_ok {prk info : List Byte} {n : Nat} (hp : prk.length < 2305843009213693952) (hi : info.length < 1000000) (hn : n ≤ 8160) :
   kdf_Expand prk info (n : Int) (expL prk info n, 0) := by
 unfold kdf_Expand
 rw [if_neg (by omega), if_neg (by omega)]
 refine ⟨by omega, by omega, expO prk info ((n + 31) / 32), ?_, by omega, by rw [expO_length]; omega, rfl⟩
 refine Iter.count (fun i => (expO prk info i, expT prk info i, i + 1)) ((n + 31) / 32) (fun i hi2 => ?_) ?_
 · unfold kdf_Expand_l0; dsimp only
   have hl := expO_length prk info i
   have hl2 := expT_le prk info i
   rw [if_pos (by omega)]
   refine ⟨_, mac_ok hp (by simp) (by simp only [List.flatten_cons, List.flatten_nil, List.append_nil, List.length_append, List.length_cons, List.length_nil]; omega), by omega, by omega, ?_⟩
   simp only [List.flatten_cons, List.flatten_nil, List.append_nil]
   rfl
 · unfold kdf_Expand_l0; dsimp only
   have hl := expO_length prk info ((n + 31) / 32)
   rw [if_neg (by omega)]
theorem derive_ok {salt key info : List Byte} {n : Nat} (hs : salt.length < 2305843009213693952) (hk : key.length < 1152921504606846976) (hi : info.length < 1000000) (hn : n ≤ 8160) :
   kdf_Derive salt key info (n : Int) (expL (dl 32 (macL salt key)) info n, 0) :=
 ⟨_, extract_ok hs hk, _, _, expand_ok (by rw [dl_length]; decide) hi hn, rfl⟩
end Go.Proofs.YtjclppnbbpnfnaaDoor
namespace Go.Proofs.YtjclppnbbpnfnaaDoor
set_option linter.unusedSimpArgs false
set_option linter.unusedVariables false
set_option linter.unusedSectionVars false
open Go Go.LW
set_option maxRecDepth 10000
theorem lit_ovr {X Y : List Byte} {j c q : Nat} (hq : q < X.length) : lit (ovr X j c Y) q = if j ≤ q ∧ q < j + c then lit Y (q - j) else lit X q := by
 unfold ovr
 rw [lit_dl _ hq]; rfl
theorem ff_all {X : List Byte} (hl : X.length = 32) (h : ∀ q, q < 32 → lit X q = 255#8) : X = List.replicate 32 255#8 := by
 refine lext (by rw [hl, List.length_replicate]) fun q hq => ?_
 rw [hl] at hq
 rw [h q hq]
 unfold lit
 rw [List.getD_eq_getElem?_getD, List.getElem?_replicate, if_pos hq]; rfl
theorem repeat_ok : bytes_Repeat [255#8] 32 (List.replicate 32 255#8) := by
 unfold bytes_Repeat
 rw [if_neg (by decide), if_neg (by decide)]
 refine ⟨0#64, 32#64, ⟨0#64, 32#64, ?_, rfl⟩, ?_⟩
 · show _ = _
   decide +kernel
 rw [if_neg (by decide), if_neg (by decide)]
 refine ⟨by decide, ?_⟩
 rw [if_neg (by decide)]
 refine ⟨32, ?_, by decide, ?_⟩
 · rw [if_neg (by decide)]; rfl
 intro nz hnz
 have e32 : (32#64).toNat = 32 := rfl
 rw [e32] at hnz ⊢
 refine ⟨by omega, ?_⟩
 have hs : (seg nz 0 32).length = 32 := by rw [seg_length (by omega)]
 generalize seg nz 0 32 = S at hs
 obtain ⟨nb, hI, hQ⟩ := iter_go (step := bytes_Repeat_l0 (32#64) 32 nz)
   (fun s : List Byte × Nat => s.1.length = 32 ∧ 1 ≤ s.2 ∧ s.2 ≤ 32 ∧ ∀ q, q < s.2 → lit s.1 q = 255#8)
   (fun x : List Byte => x = List.replicate 32 255#8) (fun s => 32 - s.2) (by
   rintro ⟨nb, bp⟩ ⟨h1, h2, h3, h4⟩
   dsimp only at h1 h2 h3 h4 ⊢
   have hz : (seg nz 0 32).length = 32 := by rw [seg_length (by omega)]
   unfold bytes_Repeat_l0
   dsimp only
   rw [e32, hz]
   by_cases hb : bp < 32
   · refine .inr ⟨_, by rw [if_pos hb]; exact ⟨by omega, by omega, by omega, rfl⟩, ⟨by rw [ovr_length]; exact h1, by dsimp only; omega, by dsimp only; omega, fun q hq => ?_⟩, by dsimp only; omega⟩
     dsimp only at hq ⊢
     rw [lit_ovr (by omega)]
     by_cases hq2 : bp ≤ q ∧ q < bp + min (min bp 32 - 0) (32 - bp)
     · rw [if_pos hq2, lit_seg (by omega) (by omega), Nat.zero_add]
       exact h4 _ (by omega)
     · rw [if_neg hq2]
       exact h4 q (by omega)
   · refine .inl ⟨nb, by rw [if_neg hb], ?_⟩
     obtain rfl : bp = 32 := by omega
     exact ff_all h1 h4) 33 (ovr S 0 (min [255#8].length S.length) [255#8], min [255#8].length S.length) (by dsimp only; rw [hs]; decide) (by
   refine ⟨by rw [ovr_length]; exact hs, by dsimp only; rw [hs]; decide, by dsimp only; rw [hs]; decide, fun q hq => ?_⟩
   dsimp only at hq ⊢
   rw [hs] at hq ⊢
   obtain rfl : q = 0 := by
     have : min [255#8].length 32 = 1 := rfl
     omega
   rw [lit_ovr (by omega), if_pos ⟨by omega, by decide⟩]; rfl)
 exact ⟨nb, hI, hQ.symm⟩
def labA : List Byte := dl 11 (lit ([108#8, 101#8, 116#8, 104#8, 101#8, 32#8, 102#8, 105#8, 114#8, 115#8, 116#8] : List Byte))
def inA (a b c : Nat → Byte) : List Byte := ((List.replicate 32 255#8 ++ dl 32 a) ++ dl 32 b) ++ dl 32 c
def outA (a b c : Nat → Byte) : List Byte := expL (dl 32 (macL (List.replicate 32 0#8) (inA a b c))) labA 48
theorem outA_length (a b c : Nat → Byte) : (outA a b c).length = 48 := expL_length _ _ _
theorem inA_length (a b c : Nat → Byte) : (inA a b c).length = 128 := by
 unfold inA; simp only [List.length_append, List.length_replicate, dl_length]
theorem deriveA (a b c : Nat → Byte) : kdf_Derive (List.replicate 32 0#8) (inA a b c) labA 48 (outA a b c, 0) :=
 derive_ok (n := 48) (by rw [List.length_replicate]; decide) (by rw [inA_length]; decide) (by unfold labA; rw [dl_length]; decide) (by decide)
def secA (a b c : Nat → Byte) : Nat → Byte := spl (fun _ => 0#8) 0 32 (lit (outA a b c))
def sidA (a b c : Nat → Byte) : Nat → Byte := spl (fun _ => 0#8) 0 16 (lit (seg (outA a b c) 32 48))
abbrev KP : Type := (Nat → Byte) × (Nat → Byte)
theorem made_good {p q s : KP} (h1 : shE p.1 p.2 = 0) (h2 : shE q.1 q.2 = 0) (h3 : shE s.1 s.2 = 0) :
   agree_made [p, q, s] (secA (tmR p.1 p.2) (tmR q.1 q.2) (tmR s.1 s.2), sidA (tmR p.1 p.2) (tmR q.1 q.2) (tmR s.1 s.2), 0) := by
 have hl := outA_length (tmR p.1 p.2) (tmR q.1 q.2) (tmR s.1 s.2)
 refine ⟨_, repeat_ok, some (inA (tmR p.1 p.2) (tmR q.1 q.2) (tmR s.1 s.2)), ?_, ?_⟩
 · refine Iter.more (s' := (List.replicate 32 255#8 ++ dl 32 (tmR p.1 p.2), 1)) ?_ (Iter.more (s' := ((List.replicate 32 255#8 ++ dl 32 (tmR p.1 p.2)) ++ dl 32 (tmR q.1 q.2), 2)) ?_ (Iter.more (s' := (inA (tmR p.1 p.2) (tmR q.1 q.2) (tmR s.1 s.2), 3)) ?_ (Iter.done ?_)))
   · unfold agree_made_l0; dsimp only
     rw [if_pos (by simp)]
     refine ⟨by simp, tmR p.1 p.2, 0, by have := sh_ok p.1 p.2; rw [h1] at this; exact this, ?_⟩
     rw [if_neg (by decide)]
     exact ⟨by rw [List.length_replicate]; decide, by decide, rfl⟩
   · unfold agree_made_l0; dsimp only
     rw [if_pos (by simp)]
     refine ⟨by simp, tmR q.1 q.2, 0, by have := sh_ok q.1 q.2; rw [h2] at this; exact this, ?_⟩
     rw [if_neg (by decide)]
     exact ⟨by simp only [List.length_append, List.length_replicate, dl_length]; decide, by decide, rfl⟩
   · unfold agree_made_l0; dsimp only
     rw [if_pos (by simp)]
     refine ⟨by simp, tmR s.1 s.2, 0, by have := sh_ok s.1 s.2; rw [h3] at this; exact this, ?_⟩
     rw [if_neg (by decide)]
     exact ⟨by simp only [List.length_append, List.length_replicate, dl_length]; decide, by decide, rfl⟩
   · unfold agree_made_l0; dsimp only
     rw [if_neg (by simp)]
 · intro key hk
   obtain rfl := Option.some.inj hk
   refine ⟨_, 0, deriveA _ _ _, ?_⟩
   rw [if_neg (by decide), hl]
   exact ⟨by decide, rfl⟩
theorem made_bad {p q s : KP} (h : shE p.1 p.2 ≠ 0 ∨ shE q.1 q.2 ≠ 0 ∨ shE s.1 s.2 ≠ 0) :
   agree_made [p, q, s] ((fun _ => 0#8), (fun _ => 0#8), 70) := by
 refine ⟨_, repeat_ok, none, ?_, fun key hk => by cases hk⟩
 have go1 : ∀ {l : List Byte}, shE p.1 p.2 ≠ 0 → agree_made_l0 [p, q, s] ((fun _ => 0#8), (fun _ => 0#8), 70) (l, 0) (.inr none) := fun {l} h1 => by
   unfold agree_made_l0; dsimp only
   rw [if_pos (by simp)]
   refine ⟨by simp, _, _, sh_ok p.1 p.2, ?_⟩
   rw [if_pos h1, (shE_or p.1 p.2).resolve_left h1]
   exact ⟨rfl, rfl⟩
 have go2 : ∀ {l : List Byte}, shE q.1 q.2 ≠ 0 → agree_made_l0 [p, q, s] ((fun _ => 0#8), (fun _ => 0#8), 70) (l, 1) (.inr none) := fun {l} h1 => by
   unfold agree_made_l0; dsimp only
   rw [if_pos (by simp)]
   refine ⟨by simp, _, _, sh_ok q.1 q.2, ?_⟩
   rw [if_pos h1, (shE_or q.1 q.2).resolve_left h1]
   exact ⟨rfl, rfl⟩
 have go3 : ∀ {l : List Byte}, shE s.1 s.2 ≠ 0 → agree_made_l0 [p, q, s] ((fun _ => 0#8), (fun _ => 0#8), 70) (l, 2) (.inr none) := fun {l} h1 => by
   unfold agree_made_l0; dsimp only
   rw [if_pos (by simp)]
   refine ⟨by simp, _, _, sh_ok s.1 s.2, ?_⟩
   rw [if_pos h1, (shE_or s.1 s.2).resolve_left h1]
   exact ⟨rfl, rfl⟩
 by_cases h1 : shE p.1 p.2 = 0
 · refine Iter.more (s' := (List.replicate 32 255#8 ++ dl 32 (tmR p.1 p.2), 1)) ?_ ?_
   · unfold agree_made_l0; dsimp only
     rw [if_pos (by simp)]
     refine ⟨by simp, tmR p.1 p.2, 0, by have := sh_ok p.1 p.2; rw [h1] at this; exact this, ?_⟩
     rw [if_neg (by decide)]
     exact ⟨by rw [List.length_replicate]; decide, by decide, rfl⟩
   by_cases h2 : shE q.1 q.2 = 0
   · refine Iter.more (s' := ((List.replicate 32 255#8 ++ dl 32 (tmR p.1 p.2)) ++ dl 32 (tmR q.1 q.2), 2)) ?_ (Iter.done (go3 (by omega)))
     unfold agree_made_l0; dsimp only
     rw [if_pos (by simp)]
     refine ⟨by simp, tmR q.1 q.2, 0, by have := sh_ok q.1 q.2; rw [h2] at this; exact this, ?_⟩
     rw [if_neg (by decide)]
     exact ⟨by simp only [List.length_append, List.length_replicate, dl_length]; decide, by decide, rfl⟩
   · exact Iter.done (go2 h2)
 · exact Iter.done (go1 h1)
def bndA (a b : Nat → Byte) : Nat → Byte := spl (spl (fun _ => 0#8) 0 32 (lit (dl 32 a))) 32 32 (lit (dl 32 b))
section sides
variable (pk pp qk qp oi ok : Nat → Byte) (n : BitVec 32)
theorem start_none : lethelaw17_start pk pp qk qp oi 0#32 ok ((fun _ => 0#8), (fun _ => 0#8), (fun _ => 0#8), (fun _ => 0#8), (fun _ => 0#8), 0#32, 170) :=
 ⟨_, _, _, _, _, _, _, by unfold agree_Start; rw [if_pos rfl], rfl⟩
theorem start_bad (hn : n ≠ 0#32) (h : shE pk ok ≠ 0 ∨ shE qk oi ≠ 0 ∨ shE qk ok ≠ 0) : lethelaw17_start pk pp qk qp oi n ok ((fun _ => 0#8), (fun _ => 0#8), (fun _ => 0#8), (fun _ => 0#8), (fun _ => 0#8), 0#32, 70) := by
 refine ⟨_, _, _, _, _, _, _, ?_, rfl⟩
 unfold agree_Start
 rw [if_neg hn]
 refine ⟨_, _, _, made_bad (p := (pk, ok)) (q := (qk, oi)) (s := (qk, ok)) h, ?_⟩
 rw [if_pos (by decide)]
theorem start_good (hn : n ≠ 0#32) (h1 : shE pk ok = 0) (h2 : shE qk oi = 0) (h3 : shE qk ok = 0) :
   lethelaw17_start pk pp qk qp oi n ok (secA (tmR pk ok) (tmR qk oi) (tmR qk ok), sidA (tmR pk ok) (tmR qk oi) (tmR qk ok), bndA pp oi, pp, qp, n, 0) := by
 refine ⟨_, _, _, _, _, _, _, ?_, rfl⟩
 unfold agree_Start
 rw [if_neg hn]
 refine ⟨_, _, _, made_good (p := (pk, ok)) (q := (qk, oi)) (s := (qk, ok)) h1 h2 h3, ?_⟩
 rw [if_neg (by decide)]
 exact ⟨_, rfl, rfl⟩
theorem meet_none : lethelaw17_meet pk pp qk qp oi ok 0#32 ((fun _ => 0#8), (fun _ => 0#8), (fun _ => 0#8), (fun _ => 0#8), (fun _ => 0#8), 0#32, 170) :=
 ⟨_, _, _, _, by unfold agree_Meet; rw [if_pos rfl], rfl⟩
theorem meet_bad (hn : n ≠ 0#32) (h : shE qk oi ≠ 0 ∨ shE pk ok ≠ 0 ∨ shE qk ok ≠ 0) : lethelaw17_meet pk pp qk qp oi ok n ((fun _ => 0#8), (fun _ => 0#8), (fun _ => 0#8), (fun _ => 0#8), (fun _ => 0#8), 0#32, 70) := by
 refine ⟨_, _, _, _, ?_, rfl⟩
 unfold agree_Meet
 rw [if_neg hn]
 refine ⟨_, _, _, made_bad (p := (qk, oi)) (q := (pk, ok)) (s := (qk, ok)) h, ?_⟩
 rw [if_pos (by decide)]
theorem meet_good (hn : n ≠ 0#32) (h1 : shE qk oi = 0) (h2 : shE pk ok = 0) (h3 : shE qk ok = 0) :
   lethelaw17_meet pk pp qk qp oi ok n (secA (tmR qk oi) (tmR pk ok) (tmR qk ok), sidA (tmR qk oi) (tmR pk ok) (tmR qk ok), bndA oi pp, (fun _ => 0#8), (fun _ => 0#8), 0#32, 0) := by
 refine ⟨_, _, _, _, ?_, rfl⟩
 unfold agree_Meet
 rw [if_neg hn]
 refine ⟨_, _, _, made_good (p := (qk, oi)) (q := (pk, ok)) (s := (qk, ok)) h1 h2 h3, ?_⟩
 rw [if_neg (by decide)]
 exact ⟨_, rfl, rfl⟩
end sides
theorem num_at {a b : Nat → Byte} (h : numB a 32 = numB b 32) : ∀ q, q < 32 → a q = b q := eqB_iff.1 (eqB_iffN.2 h)
theorem eqA (m : Nat) (F : Nat → Byte) : eqB m F F = true := eqB_iff.2 fun _ _ => rfl
end Go.Proofs.YtjclppnbbpnfnaaDoor
namespace Go.Proofs.YtjclppnbbpnfnaaDoor
set_option linter.unusedSimpArgs false
set_option linter.unusedVariables false
set_option linter.unusedSectionVars false
open Go Go.LW
def wdR (x : BitVec 32) : BitVec 64 := x.setWidth 64
theorem wdR_toNat (x : BitVec 32) : (wdR x).toNat = x.toNat := by
 unfold wdR; rw [BitVec.toNat_setWidth]; have := x.isLt; omega
theorem or_add {a b i : Nat} (h : b < 2 ^ i) : a * 2 ^ i ||| b = a * 2 ^ i + b := by
 rw [← Nat.shiftLeft_eq, Nat.shiftLeft_add_eq_or_of_lt h]
theorem rot1 (x : BitVec 32) : wdR x / 2#64 + wdR x % 2#64 * 2147483648#64 = wdR (x.rotateRight 1) := by
 apply BitVec.eq_of_toNat_eq
 have hx := x.isLt
 rw [wdR_toNat, BitVec.toNat_rotateRight, BitVec.toNat_add, BitVec.toNat_mul, BitVec.toNat_umod, BitVec.toNat_udiv, wdR_toNat]
 have e : x.toNat <<< (32 - 1 % 32) % 2 ^ 32 = (x.toNat % 2) * 2 ^ 31 := by
   show x.toNat <<< 31 % 2 ^ 32 = _
   rw [Nat.shiftLeft_eq]; simp only [Nat.reducePow] at hx ⊢; omega
 have e2 : x.toNat >>> (1 % 32) = x.toNat / 2 := rfl
 rw [e, e2, Nat.or_comm, or_add (by omega)]
 simp only [BitVec.toNat_ofNat, Nat.reducePow, Nat.reduceMod] at hx ⊢
 omega
theorem rot_succ (x : BitVec 32) {n : Nat} (h : n + 1 < 32) : (x.rotateRight n).rotateRight 1 = x.rotateRight (n + 1) := by
 apply BitVec.eq_of_getLsbD_eq
 intro i hi
 rw [BitVec.getLsbD_rotateRight, BitVec.getLsbD_rotateRight, BitVec.getLsbD_rotateRight, BitVec.getLsbD_rotateRight, Nat.mod_eq_of_lt (show n + 1 < 32 by omega), Nat.mod_eq_of_lt (show n < 32 by omega), Nat.mod_eq_of_lt (show 1 < 32 by decide)]
 simp only [Bool.cond_decide]
 by_cases h1 : i < 31
 · rw [if_pos (by omega)]
   by_cases h2 : 1 + i < 32 - n
   · rw [if_pos h2, if_pos (by omega)]; congr 1; omega
   · rw [if_neg h2, if_neg (by omega)]
     rw [decide_eq_true (show 1 + i < 32 by omega), decide_eq_true (show i < 32 by omega)]
     congr 2; omega
 · obtain rfl : i = 31 := by omega
   rw [if_neg (by omega)]
   by_cases h2 : 31 - (32 - 1) < 32 - n
   · rw [if_pos h2, if_neg (by omega)]
     congr 2; omega
   · omega
theorem rot_zero (x : BitVec 32) : x.rotateRight 0 = x := by
 apply BitVec.eq_of_getLsbD_eq
 intro i hi
 rw [BitVec.getLsbD_rotateRight]
 simp only [Bool.cond_decide]
 rw [if_pos (by omega)]
 congr 1; omega
theorem turn_ok (n : Nat) (h : n < 32) (x : BitVec 32) : letheref02_turn (n : Int) (wdR x) (wdR (x.rotateRight n)) := by
 refine ⟨_, ?_, rfl⟩
 have key : Iter (letheref02_turn_l0 (n : Int)) (wdR (x.rotateRight 0), 0) (wdR (x.rotateRight n)) :=
   Iter.count (fun i => (wdR (x.rotateRight i), i)) n (fun i hi => by
     unfold letheref02_turn_l0; dsimp only
     rw [if_pos (by omega), rot1, rot_succ x (by omega)]
     exact ⟨by omega, rfl⟩) (by
     unfold letheref02_turn_l0; dsimp only; rw [if_neg (by omega)])
 rwa [rot_zero] at key
theorem move_ok (n : Nat) (h : n < 32) (x : BitVec 32) : letheref02_move (n : Int) (wdR x) (wdR (x >>> n)) := by
 refine ⟨_, ?_, rfl⟩
 have key : Iter (letheref02_move_l0 (n : Int)) (wdR (x >>> 0), 0) (wdR (x >>> n)) :=
   Iter.count (fun i => (wdR (x >>> i), i)) n (fun i hi => by
     unfold letheref02_move_l0; dsimp only
     have e : wdR (x >>> i) / 2#64 = wdR (x >>> (i + 1)) := by
       apply BitVec.eq_of_toNat_eq
       rw [BitVec.toNat_udiv, wdR_toNat, wdR_toNat, BitVec.toNat_ushiftRight, BitVec.toNat_ushiftRight, Nat.shiftRight_succ]; rfl
     rw [if_pos (by omega), e]
     exact ⟨by omega, rfl⟩) (by
     unfold letheref02_move_l0; dsimp only; rw [if_neg (by omega)])
 rwa [BitVec.ushiftRight_zero] at key
theorem wd_xor (a b : BitVec 32) : wdR a ^^^ wdR b = wdR (a ^^^ b) := by unfold wdR; rw [BitVec.setWidth_xor]
theorem wd_and (a b : BitVec 32) : wdR a &&& wdR b = wdR (a &&& b) := by unfold wdR; rw [BitVec.setWidth_and]
theorem wd_not (a : BitVec 32) : 4294967295#64 - wdR a = wdR (~~~a) := by
 apply BitVec.eq_of_toNat_eq
 have ha := a.isLt
 rw [BitVec.toNat_sub, wdR_toNat, wdR_toNat, BitVec.toNat_not]
 simp only [BitVec.toNat_ofNat]
 omega
theorem sum4 (a b c d : BitVec 32) : (wdR a + wdR b + wdR c + wdR d) % 4294967296#64 = wdR (a + b + c + d) := by
 apply BitVec.eq_of_toNat_eq
 have := a.isLt; have := b.isLt; have := c.isLt; have := d.isLt
 simp only [BitVec.toNat_umod, BitVec.toNat_add, wdR_toNat, BitVec.toNat_ofNat, Nat.reducePow, Nat.reduceMod]
 omega
theorem sum6 (x a b c d e : BitVec 32) : (wdR x + (wdR a + wdR b + wdR c + wdR d + wdR e)) % 4294967296#64 = wdR (x + (a + b + c + d + e)) := by
 apply BitVec.eq_of_toNat_eq
 have := a.isLt; have := b.isLt; have := c.isLt; have := d.isLt; have := e.isLt; have := x.isLt
 simp only [BitVec.toNat_umod, BitVec.toNat_add, wdR_toNat, BitVec.toNat_ofNat, Nat.reducePow, Nat.reduceMod]
 omega
theorem sum7 (a b c d e f g : BitVec 32) : (wdR a + wdR b + wdR c + wdR d + wdR e + (wdR f + wdR g)) % 4294967296#64 = wdR (a + b + c + d + e + (f + g)) := by
 apply BitVec.eq_of_toNat_eq
 have := a.isLt; have := b.isLt; have := c.isLt; have := d.isLt; have := e.isLt; have := f.isLt; have := g.isLt
 simp only [BitVec.toNat_umod, BitVec.toNat_add, wdR_toNat, BitVec.toNat_ofNat, Nat.reducePow, Nat.reduceMod]
 omega
theorem sum2 (a b : BitVec 32) : ((a.setWidth 64 + wdR b) % 4294967296#64).setWidth 32 = a + b := by
 apply BitVec.eq_of_toNat_eq
 have := a.isLt; have := b.isLt
 simp only [BitVec.toNat_setWidth, BitVec.toNat_umod, BitVec.toNat_add, wdR_toNat, BitVec.toNat_ofNat, Nat.reducePow, Nat.reduceMod]
 omega
def pkw (blk : Nat → Byte) (t : Nat) : Nat → BitVec 64
 | 0 => 0#64
 | k + 1 => pkw blk t k * 256#64 + (blk (4 * t + k)).setWidth 64
theorem be32_toNat (a b c d : BitVec 8) : (be32 a b c d).toNat = ((a.toNat * 256 + b.toNat) * 256 + c.toNat) * 256 + d.toNat := by
 have ha := a.isLt; have hb := b.isLt; have hc := c.isLt; have hd := d.isLt
 unfold be32
 simp only [BitVec.toNat_or, BitVec.toNat_shiftLeft, BitVec.toNat_setWidth, Nat.shiftLeft_eq]
 rw [Nat.mod_eq_of_lt (show a.toNat < 2 ^ 32 by omega), Nat.mod_eq_of_lt (show b.toNat < 2 ^ 32 by omega), Nat.mod_eq_of_lt (show c.toNat < 2 ^ 32 by omega), Nat.mod_eq_of_lt (show d.toNat < 2 ^ 32 by omega),
   Nat.mod_eq_of_lt (show a.toNat * 2 ^ 24 < 2 ^ 32 by omega), Nat.mod_eq_of_lt (show b.toNat * 2 ^ 16 < 2 ^ 32 by omega), Nat.mod_eq_of_lt (show c.toNat * 2 ^ 8 < 2 ^ 32 by omega)]
 rw [or_add (show b.toNat * 2 ^ 16 < 2 ^ 24 by omega), show a.toNat * 2 ^ 24 + b.toNat * 2 ^ 16 = (a.toNat * 2 ^ 8 + b.toNat) * 2 ^ 16 by omega, or_add (show c.toNat * 2 ^ 8 < 2 ^ 16 by omega),
   show (a.toNat * 2 ^ 8 + b.toNat) * 2 ^ 16 + c.toNat * 2 ^ 8 = ((a.toNat * 2 ^ 8 + b.toNat) * 2 ^ 8 + c.toNat) * 2 ^ 8 by omega, or_add (show d.toNat < 2 ^ 8 by omega)]
theorem pkw4 (blk : Nat → Byte) (t : Nat) : pkw blk t 4 = wdR (wfst blk t) := by
 apply BitVec.eq_of_toNat_eq
 rw [wdR_toNat]
 unfold wfst
 rw [be32_toNat]
 have h0 := (blk (4 * t)).isLt; have h1 := (blk (4 * t + 1)).isLt; have h2 := (blk (4 * t + 2)).isLt; have h3 := (blk (4 * t + 3)).isLt
 simp only [pkw, BitVec.toNat_add, BitVec.toNat_mul, BitVec.toNat_setWidth, BitVec.toNat_ofNat, Nat.add_zero]
 omega
theorem upd_self {α : Type} {m : Nat → α} {t : Nat} {v : α} (h : m t = v) : upd m t v = m := by
 funext q; rw [upd_at]; by_cases hq : q = t
 · subst hq; rw [if_pos rfl, h]
 · rw [if_neg hq]
theorem upd_upd {α : Type} {m : Nat → α} {t : Nat} {v u : α} : upd (upd m t v) t u = upd m t u := by
 funext q; rw [upd_at, upd_at, upd_at]; by_cases hq : q = t
 · rw [if_pos hq, if_pos hq]
 · rw [if_neg hq, if_neg hq, if_neg hq]
theorem wbeg_out (blk : Nat → Byte) : ∀ t q, t ≤ q → wbeg blk t q = 0#32
 | 0, _, _ => rfl
 | t + 1, q, h => by
   show upd (wbeg blk t) t _ q = _
   rw [upd_ne _ _ _ _ (by omega)]; exact wbeg_out blk t q (by omega)
theorem wd_upd (m : Nat → BitVec 32) (t : Nat) (v : BitVec 32) : upd (fun q => wdR (m q)) t (wdR v) = fun q => wdR (upd m t v q) := by
 funext q; rw [upd_at, upd_at]; by_cases hq : q = t
 · rw [if_pos hq, if_pos hq]
 · rw [if_neg hq, if_neg hq]
theorem sched_ok (blk : Nat → Byte) : letheref02_schedule blk (fun q => wdR (wext blk 48 q)) := by
 refine ⟨fun q => wdR (wbeg blk 16 q), ?_, _, ?_, rfl⟩
 · refine Iter.count (fun i => (i, fun q => wdR (wbeg blk i q))) 16 (fun i hi => ?_) ?_
   · unfold letheref02_schedule_l0; dsimp only
     rw [if_pos hi]
     refine ⟨upd (fun q => wdR (wbeg blk i q)) i (pkw blk i 4), ?_, ?_⟩
     · have key : Iter (letheref02_schedule_l1 blk i) (0, upd (fun q => wdR (wbeg blk i q)) i (pkw blk i 0)) (upd (fun q => wdR (wbeg blk i q)) i (pkw blk i 4)) :=
         Iter.count (fun k => (k, upd (fun q => wdR (wbeg blk i q)) i (pkw blk i k))) 4 (fun k hk => by
           unfold letheref02_schedule_l1; dsimp only
           rw [if_pos hk, upd_same, upd_upd]; rfl) (by
           unfold letheref02_schedule_l1; dsimp only; rw [if_neg (by omega)])
       rwa [upd_self (show wdR (wbeg blk i i) = pkw blk i 0 by rw [wbeg_out blk i i (Nat.le_refl _)]; rfl)] at key
     · rw [pkw4, wd_upd]; rfl
   · unfold letheref02_schedule_l0; dsimp only; rw [if_neg (by omega)]
 · refine Iter.count (fun i => (16 + i, fun q => wdR (wext blk i q))) 48 (fun i hi => ?_) ?_
   · unfold letheref02_schedule_l2; dsimp only
     rw [if_pos (by omega), show (((16 + i : Nat) : Int) - 2).toNat = 16 + i - 2 by omega, show (((16 + i : Nat) : Int) - 15).toNat = 16 + i - 15 by omega,
       show (((16 + i : Nat) : Int) - 7).toNat = 16 + i - 7 by omega, show (((16 + i : Nat) : Int) - 16).toNat = 16 + i - 16 by omega]
     refine ⟨by omega, by omega, by omega, _, turn_ok 7 (by decide) _, _, turn_ok 18 (by decide) _, _, move_ok 3 (by decide) _, by omega, by omega, by omega, _, turn_ok 17 (by decide) _, _, turn_ok 19 (by decide) _, _, move_ok 10 (by decide) _, by omega, by omega, ?_⟩
     rw [wd_xor, wd_xor, wd_xor, wd_xor, sum4, wd_upd]; rfl
   · unfold letheref02_schedule_l2; dsimp only; rw [if_neg (by omega)]
def V64 (s : H8) : Nat → BitVec 64 := fun q => if q < 8 then wdR (s.at q) else 0#64
def upto {α : Type} (z : α) (f : Nat → α) (i : Nat) : Nat → α := fun q => if q < i then f q else z
theorem upto_succ {α : Type} (z : α) (f : Nat → α) (i : Nat) : upd (upto z f i) i (f i) = upto z f (i + 1) := by
 funext q; rw [upd_at]; unfold upto
 by_cases hq : q = i
 · subst hq; rw [if_pos rfl, if_pos (by omega)]
 · rw [if_neg hq]
   by_cases h : q < i
   · rw [if_pos h, if_pos (by omega)]
   · rw [if_neg h, if_neg (by omega)]
theorem upto_zero {α : Type} (z : α) (f : Nat → α) : upto z f 0 = fun _ => z := by funext q; unfold upto; rw [if_neg (by omega)]
theorem at_of (st : Nat → BitVec 32) : ∀ q, q < 8 → (H8.of st).at q = st q := fun q hq => by
 rcases (by omega : q = 0 ∨ q = 1 ∨ q = 2 ∨ q = 3 ∨ q = 4 ∨ q = 5 ∨ q = 6 ∨ q = 7) with rfl | rfl | rfl | rfl | rfl | rfl | rfl | rfl <;> rfl
def shf (m : Nat → BitVec 64) (j : Nat) : Nat → BitVec 64 := fun q => if 8 - j ≤ q ∧ q < 8 then m (q - 1) else m q
theorem block_ok (st : Nat → BitVec 32) (blk : Nat → Byte) : letheref02_Block st blk (compress K256 st blk) := by
 refine ⟨_, sched_ok blk, V64 (H8.of st), ?_, V64 (rounds K256 (wext blk 48) (H8.of st) 64), ?_, _, ?_, rfl⟩
 · have key : Iter (letheref02_Block_l0 st) (0, upto 0#64 (fun q => wdR (st q)) 0) (upto 0#64 (fun q => wdR (st q)) 8) :=
     Iter.count (fun i => (i, upto 0#64 (fun q => wdR (st q)) i)) 8 (fun i hi => by
       unfold letheref02_Block_l0; dsimp only; rw [if_pos hi, ← upto_succ]; rfl) (by
       unfold letheref02_Block_l0; dsimp only; rw [if_neg (by omega)])
   rw [upto_zero] at key
   have e : upto 0#64 (fun q => wdR (st q)) 8 = V64 (H8.of st) := by
     funext q; unfold upto V64
     by_cases h : q < 8
     · rw [if_pos h, if_pos h, at_of st q h]
     · rw [if_neg h, if_neg h]
   rwa [e] at key
 · refine Iter.count (fun i => (i, V64 (rounds K256 (wext blk 48) (H8.of st) i))) 64 (fun i hi => ?_) ?_
   · unfold letheref02_Block_l1; dsimp only
     rw [if_pos hi]
     generalize hs : rounds K256 (wext blk 48) (H8.of st) i = s
     have hs1 : rounds K256 (wext blk 48) (H8.of st) (i + 1) = round (K256 i) (wext blk 48 i) s := by rw [← hs]; rfl
     rw [hs1]
     have v0 : V64 s 0 = wdR s.a := rfl
     have v1 : V64 s 1 = wdR s.b := rfl
     have v2 : V64 s 2 = wdR s.c := rfl
     have v4 : V64 s 4 = wdR s.e := rfl
     have v5 : V64 s 5 = wdR s.f := rfl
     have v6 : V64 s 6 = wdR s.g := rfl
     have v7 : V64 s 7 = wdR s.h := rfl
     rw [v0, v1, v2, v4, v5, v6, v7]
     refine ⟨_, turn_ok 2 (by decide) _, _, turn_ok 13 (by decide) _, _, turn_ok 22 (by decide) _, _, turn_ok 6 (by decide) _, _, turn_ok 11 (by decide) _, _, turn_ok 25 (by decide) _, shf (V64 s) 7, ?_, ?_⟩
     · have e0 : shf (V64 s) 0 = V64 s := by funext q; unfold shf; rw [if_neg (by omega)]
       have key : Iter letheref02_Block_l2 ((((7 - 0 : Nat)) : Int), shf (V64 s) 0) (shf (V64 s) 7) :=
         Iter.count (fun j => ((((7 - j : Nat)) : Int), shf (V64 s) j)) 7 (fun j hj => by
           unfold letheref02_Block_l2; dsimp only
           rw [if_pos (by omega)]
           refine ⟨by omega, by omega, by omega, by omega, ?_⟩
           have e1 : (((7 - j : Nat) : Int) - 1) = ((7 - (j + 1) : Nat) : Int) := by omega
           rw [e1]
           have e2 : (((7 - (j + 1) : Nat)) : Int).toNat = 7 - (j + 1) := rfl
           have e3 : (((7 - j : Nat)) : Int).toNat = 7 - j := rfl
           rw [e2, e3]
           have e4 : upd (shf (V64 s) j) (7 - j) (shf (V64 s) j (7 - (j + 1))) = shf (V64 s) (j + 1) := by
             funext q; rw [upd_at]
             by_cases hq : q = 7 - j
             · subst hq; rw [if_pos rfl]; unfold shf; rw [if_neg (by omega), if_pos (by omega)]; congr 1
             · rw [if_neg hq]; unfold shf
               by_cases h2 : 8 - j ≤ q ∧ q < 8
               · rw [if_pos h2, if_pos (by omega)]
               · rw [if_neg h2, if_neg (by omega)]
           rw [e4]) (by
           unfold letheref02_Block_l2; dsimp only; rw [if_neg (by omega)])
       rwa [e0] at key
     · have w4 : shf (V64 s) 7 4 = wdR s.d := rfl
       have k1 : K64 i = wdR (K256 i) := rfl
       rw [w4, k1, wd_not, wd_and, wd_and, wd_and, wd_and, wd_and, wd_xor, wd_xor, wd_xor, wd_xor, wd_xor, wd_xor, wd_xor, sum6, sum7]
       have e : upd (upd (shf (V64 s) 7) 4 (wdR (s.d + t1 (K256 i) (wext blk 48 i) s))) 0 (wdR (t1 (K256 i) (wext blk 48 i) s + t2 s)) = V64 (round (K256 i) (wext blk 48 i) s) := by
         funext q
         rw [upd_at, upd_at]
         by_cases h8 : q < 8
         · rcases (by omega : q = 0 ∨ q = 1 ∨ q = 2 ∨ q = 3 ∨ q = 4 ∨ q = 5 ∨ q = 6 ∨ q = 7) with rfl | rfl | rfl | rfl | rfl | rfl | rfl | rfl <;> rfl
         · rw [if_neg (by omega), if_neg (by omega)]; unfold shf V64; rw [if_neg (by omega), if_neg h8, if_neg h8]
       rw [← e]; rfl
   · unfold letheref02_Block_l1; dsimp only; rw [if_neg (by omega)]
 · refine Iter.count (fun i => (i, addTo st (rounds K256 (wext blk 48) (H8.of st) 64).at i)) 8 (fun i hi => ?_) ?_
   · unfold letheref02_Block_l3; dsimp only
     have e : V64 (rounds K256 (wext blk 48) (H8.of st) 64) i = wdR ((rounds K256 (wext blk 48) (H8.of st) 64).at i) := by unfold V64; rw [if_pos hi]
     rw [if_pos hi, e, sum2]; rfl
   · unfold letheref02_Block_l3; dsimp only; rw [if_neg (by omega)]; rfl
end Go.Proofs.YtjclppnbbpnfnaaDoor
namespace Go.Proofs.YtjclppnbbpnfnaaDoor
set_option linter.unusedSimpArgs false
set_option linter.unusedVariables false
set_option linter.unusedSectionVars false
open Go Go.LW
theorem begin_ok : letheref02_Begin H256 := by
 refine ⟨H256, ?_, rfl⟩
 have key : Iter (letheref02_Begin_l0) (0, upto 0#32 H256 0) (upto 0#32 H256 8) :=
   Iter.count (fun i => (i, upto 0#32 H256 i)) 8 (fun i hi => by
     unfold letheref02_Begin_l0; dsimp only
     have e : (H64 i).setWidth 32 = H256 i := by
       apply BitVec.eq_of_toNat_eq
       have := (H256 i).isLt
       unfold H64
       simp only [BitVec.toNat_setWidth, Nat.reducePow] at this ⊢
       omega
     rw [if_pos hi, e, upto_succ]) (by
     unfold letheref02_Begin_l0; dsimp only; rw [if_neg (by omega)])
 rw [upto_zero] at key
 have e : upto 0#32 H256 8 = H256 := by
   funext q; unfold upto
   by_cases h : q < 8
   · rw [if_pos h]
   · rw [if_neg h]; unfold H256
     simp [Array.getD, h]
 rwa [e] at key
theorem at_ok {b : List Byte} {i : Nat} (h : 64 * i + 64 ≤ b.length) (hb : b.length < 9223372036854775808) : letheref02_At b (i : Int) (upto 0#8 (fun q => lit b (64 * i + q)) 64) := by
 refine ⟨_, ?_, rfl⟩
 have key : Iter (letheref02_At_l0 b (i : Int)) (0, upto 0#8 (fun q => lit b (64 * i + q)) 0) (upto 0#8 (fun q => lit b (64 * i + q)) 64) :=
   Iter.count (fun k => (k, upto 0#8 (fun q => lit b (64 * i + q)) k)) 64 (fun k hk => by
     unfold letheref02_At_l0; dsimp only
     rw [if_pos hk, show ((64 * (i : Int)) + (k : Int)).toNat = 64 * i + k by omega, ← upto_succ]
     exact ⟨by omega, by omega, by omega, rfl⟩) (by
     unfold letheref02_At_l0; dsimp only; rw [if_neg (by omega)])
 rwa [upto_zero] at key
theorem dgb_upto (st : Nat → BitVec 32) (i : Nat) : dgb st i = upto 0#8 (dig st) (4 * i) := by
 funext q; unfold upto
 by_cases h : q < 4 * i
 · rw [if_pos h, dgb_at st i q h]
 · rw [if_neg h]
   have : ∀ i, 4 * i ≤ q → dgb st i q = 0#8 := by
     intro i
     induction i with
     | zero => intro _; rfl
     | succ i ih =>
       intro hq
       simp only [dgb, upd_at]
       rw [if_neg (by omega), if_neg (by omega), if_neg (by omega), if_neg (by omega)]
       exact ih (by omega)
   exact this i (by omega)
def bo (st : Nat → BitVec 32) (i j : Nat) : Nat → Byte := fun q => if 4 * i + 4 - j ≤ q ∧ q < 4 * i + 4 then dig st q else if q < 4 * i then dig st q else 0#8
theorem bytesOf_ok (st : Nat → BitVec 32) : letheref02_bytesOf st (dgb st 8) := by
 refine ⟨dgb st 8, ?_, rfl⟩
 refine Iter.count (fun i => (i, dgb st i)) 8 (fun i hi => ?_) ?_
 · unfold letheref02_bytesOf_l0; dsimp only
   rw [if_pos hi]
   refine ⟨dgb st (i + 1), ?_, rfl⟩
   have e0 : bo st i 0 = dgb st i := by
     rw [dgb_upto]; funext q; unfold bo upto; rw [if_neg (by omega)]
   have e4 : bo st i 4 = dgb st (i + 1) := by
     rw [dgb_upto]; funext q; unfold bo upto
     by_cases h1 : q < 4 * i
     · rw [if_neg (by omega), if_pos h1, if_pos (by omega)]
     · by_cases h2 : q < 4 * i + 4
       · rw [if_pos (by omega), if_pos (by omega)]
       · rw [if_neg (by omega), if_neg h1, if_neg (by omega)]
   have key : Iter (letheref02_bytesOf_l1 i) (st i >>> (8 * 0), (3 - ((0 : Nat) : Int)), bo st i 0) (bo st i 4) :=
     Iter.count (fun j => (st i >>> (8 * j), (3 - ((j : Nat) : Int)), bo st i j)) 4 (fun j hj => by
       unfold letheref02_bytesOf_l1; dsimp only
       have h1 : st i >>> (8 * j) / 256#32 = st i >>> (8 * (j + 1)) := by
         apply BitVec.eq_of_toNat_eq
         rw [BitVec.toNat_udiv, BitVec.toNat_ushiftRight, BitVec.toNat_ushiftRight, Nat.mul_succ, Nat.shiftRight_add]
         simp only [BitVec.toNat_ofNat, Nat.reducePow, Nat.reduceMod, Nat.shiftRight_eq_div_pow]
       have h2 : (st i >>> (8 * j) % 256#32).setWidth 8 = (st i >>> (8 * j)).setWidth 8 := by
         apply BitVec.eq_of_toNat_eq
         simp only [BitVec.toNat_setWidth, BitVec.toNat_umod, BitVec.toNat_ofNat, Nat.reducePow, Nat.reduceMod]
         omega
       rw [if_pos (by omega), show ((((4 * i : Nat)) : Int) + (3 - (j : Int))).toNat = 4 * i + 3 - j by omega, h1, h2]
       refine ⟨by omega, by omega, by omega, ?_⟩
       have h3 : (3 - (j : Int) - 1) = 3 - ((j + 1 : Nat) : Int) := by omega
       have h4 : upd (bo st i j) (4 * i + 3 - j) ((st i >>> (8 * j)).setWidth 8) = bo st i (j + 1) := by
         funext q; rw [upd_at]
         by_cases hq : q = 4 * i + 3 - j
         · subst hq; rw [if_pos rfl]; unfold bo; rw [if_pos (by omega)]
           unfold dig
           rw [show (4 * i + 3 - j) / 4 = i by omega, show 24 - 8 * ((4 * i + 3 - j) % 4) = 8 * j by omega]
         · rw [if_neg hq]; unfold bo
           by_cases h5 : 4 * i + 4 - j ≤ q ∧ q < 4 * i + 4
           · rw [if_pos h5, if_pos (by omega)]
           · rw [if_neg h5, if_neg (show ¬ (4 * i + 4 - (j + 1) ≤ q ∧ q < 4 * i + 4) by omega)]
       rw [h3, h4]) (by
       unfold letheref02_bytesOf_l1; dsimp only; rw [if_neg (by omega)])
   rw [e0, e4, Nat.mul_zero, BitVec.ushiftRight_zero] at key
   exact key
 · unfold letheref02_bytesOf_l0; dsimp only; rw [if_neg (by omega)]
theorem len_byte (N i : Nat) (h : i < 8) : ((BitVec.ofNat 64 N * 8#64) >>> (8 * (7 - i)) % 256#64).setWidth 8 = lenb N i := by
 unfold lenb
 rw [BitVec.mul_comm, show 56 - 8 * i = 8 * (7 - i) by omega]
 apply BitVec.eq_of_toNat_eq
 simp only [BitVec.toNat_setWidth, BitVec.toNat_umod, BitVec.toNat_ofNat, Nat.reducePow, Nat.reduceMod]
 omega
def tl (N j : Nat) : Nat → Byte := fun q => if 8 - j ≤ q ∧ q < 8 then lenb N q else 0#8
theorem padded_ok2 {X : List Byte} (h : X.length < 70368744177664) : letheref02_padded X (padB X) := by
 have hz : (119 - X.length % 64) % 64 < 64 := by omega
 refine ⟨by omega, by rw [List.nil_append, List.length_singleton]; omega, pad0 X, ?_, pad0 X, tl X.length 8, ?_, ?_, ?_⟩
 · rw [List.nil_append]
   have key : Iter (letheref02_padded_l0) (X ++ 128#8 :: List.replicate 0 0#8) (X ++ 128#8 :: List.replicate ((119 - X.length % 64) % 64) 0#8) :=
     Iter.count (fun i => X ++ 128#8 :: List.replicate i 0#8) ((119 - X.length % 64) % 64) (fun i hi => by
       unfold letheref02_padded_l0
       have hl : (X ++ 128#8 :: List.replicate i 0#8).length = X.length + 1 + i := by rw [List.length_append, List.length_cons, List.length_replicate]; omega
       rw [hl, if_pos (by omega)]
       refine ⟨by rw [List.length_singleton]; omega, ?_⟩
       rw [List.append_assoc, List.cons_append, List.replicate_succ']) (by
       unfold letheref02_padded_l0
       have hl : (X ++ 128#8 :: List.replicate ((119 - X.length % 64) % 64) 0#8).length = X.length + 1 + (119 - X.length % 64) % 64 := by rw [List.length_append, List.length_cons, List.length_replicate]; omega
       rw [hl, if_neg (by omega)])
   exact key
 · have e0 : tl X.length 0 = fun _ => 0#8 := by funext q; unfold tl; rw [if_neg (by omega)]
   have key : Iter (letheref02_padded_l1) (pad0 X, (BitVec.ofNat 64 X.length * 8#64) >>> (8 * 0), (7 - ((0 : Nat) : Int)), tl X.length 0) (pad0 X, tl X.length 8) :=
     Iter.count (fun j => (pad0 X, (BitVec.ofNat 64 X.length * 8#64) >>> (8 * j), (7 - ((j : Nat) : Int)), tl X.length j)) 8 (fun j hj => by
       unfold letheref02_padded_l1; dsimp only
       have h1 : (BitVec.ofNat 64 X.length * 8#64) >>> (8 * j) / 256#64 = (BitVec.ofNat 64 X.length * 8#64) >>> (8 * (j + 1)) := by
         generalize BitVec.ofNat 64 X.length * 8#64 = y
         apply BitVec.eq_of_toNat_eq
         rw [BitVec.toNat_udiv, BitVec.toNat_ushiftRight, BitVec.toNat_ushiftRight, Nat.mul_succ, Nat.shiftRight_add]
         simp only [BitVec.toNat_ofNat, Nat.reducePow, Nat.reduceMod, Nat.shiftRight_eq_div_pow]
       rw [if_pos (by omega), h1, show (7 - (j : Int)).toNat = 7 - j by omega]
       refine ⟨by omega, by omega, ?_⟩
       have h2 := len_byte X.length (7 - j) (by omega)
       rw [show 8 * (7 - (7 - j)) = 8 * j by omega] at h2
       have h3 : (7 - (j : Int) - 1) = 7 - ((j + 1 : Nat) : Int) := by omega
       have h4 : upd (tl X.length j) (7 - j) (lenb X.length (7 - j)) = tl X.length (j + 1) := by
         funext q; rw [upd_at]
         by_cases hq : q = 7 - j
         · subst hq; rw [if_pos rfl]; unfold tl; rw [if_pos (by omega)]
         · rw [if_neg hq]; unfold tl
           by_cases h5 : 8 - j ≤ q ∧ q < 8
           · rw [if_pos h5, if_pos (by omega)]
           · rw [if_neg h5, if_neg (by omega)]
       rw [h2, h3, h4]) (by
       unfold letheref02_padded_l1; dsimp only; rw [if_neg (by omega)])
   rw [e0, Nat.mul_zero, BitVec.ushiftRight_zero] at key
   exact key
 · show (pad0 X).length + 8 ≤ _
   unfold pad0
   rw [List.length_append, List.length_cons, List.length_replicate]
   omega
 · have e : ∀ i, i < 8 → tl X.length 8 i = lenb X.length i := fun i hi => by unfold tl; rw [if_pos (by omega)]
   rw [e 0 (by decide), e 1 (by decide), e 2 (by decide), e 3 (by decide), e 4 (by decide), e 5 (by decide), e 6 (by decide), e 7 (by decide)]
   rfl
theorem padB_len2 (X : List Byte) : (padB X).length % 64 = 0 ∧ (padB X).length ≤ X.length + 72 ∧ 64 ≤ (padB X).length := by
 unfold padB pad0
 rw [List.length_append, List.length_append, List.length_cons, List.length_replicate, List.length_map, List.length_range]
 omega
theorem compress_ext {KK s : Nat → BitVec 32} {b b' : Nat → Byte} (h : ∀ q, q < 64 → b q = b' q) : compress KK s b = compress KK s b' := by
 unfold compress; rw [wext_congr h]
theorem refsum_ok {X : List Byte} (h : X.length < 70368744177664) : letheref02_Sum X (shaL X) := by
 have hp := padB_len2 X
 refine ⟨padB X, padded_ok2 h, H256, begin_ok, hstN K256 H256 (lit (padB X)) ((padB X).length / 64), ?_, _, bytesOf_ok _, rfl⟩
 refine Iter.count (fun i => (padB X, i, hstN K256 H256 (lit (padB X)) i)) ((padB X).length / 64) (fun i hi => ?_) ?_
 · unfold letheref02_Sum_l0; dsimp only
   refine ⟨by omega, ?_⟩
   rw [if_pos hi]
   refine ⟨_, at_ok (by omega) (by omega), _, block_ok _ _, by omega, ?_⟩
   have e : hstN K256 H256 (lit (padB X)) (i + 1) = compress K256 (hstN K256 H256 (lit (padB X)) i) (upto 0#8 (fun q => lit (padB X) (64 * i + q)) 64) := by
     show compress _ _ _ = _
     exact compress_ext fun q hq => by unfold upto; rw [if_pos hq]
   rw [e]
 · unfold letheref02_Sum_l0; dsimp only
   exact ⟨by omega, by rw [if_neg (by omega)]⟩
end Go.Proofs.YtjclppnbbpnfnaaDoor
namespace Go.Proofs.YtjclppnbbpnfnaaDoor
set_option linter.unusedSimpArgs false
set_option linter.unusedVariables false
set_option linter.unusedSectionVars false
open Go Go.LW
def nb (k : Nat) (x : Int) : Nat → Nat
 | 0 => 0
 | i + 1 => if (((k / 2 ^ i % 2 : Nat)) : Int) ≠ (x.tdiv ((2 ^ i : Nat) : Int)).tmod 2 then nb k x i + 2 ^ i else nb k x i
theorem nb_all : ∀ k : Fin 256, BitVec.ofNat 8 (nb k.val 54 8) = BitVec.ofNat 8 k.val ^^^ 54#8 ∧ BitVec.ofNat 8 (nb k.val 92 8) = BitVec.ofNat 8 k.val ^^^ 92#8 := by decide +kernel
theorem nb_le (k : Nat) (x : Int) : ∀ i, nb k x i < 2 ^ i
 | 0 => by show 0 < 1; decide
 | i + 1 => by
   have := nb_le k x i
   unfold nb
   rw [Nat.pow_succ]
   split <;> omega
theorem nb_byte (b : Byte) {x : Int} (hx : x = 54 ∨ x = 92) : BitVec.ofNat 8 (nb b.toNat x 8) = b ^^^ BitVec.ofInt 8 x := by
 have h := nb_all ⟨b.toNat, b.isLt⟩
 have e : BitVec.ofNat 8 b.toNat = b := by simp
 dsimp only at h
 rw [e] at h
 rcases hx with rfl | rfl
 · exact h.1
 · exact h.2
theorem bit_bd {i : Nat} (hi : i < 8) {x : Int} (hx : x = 54 ∨ x = 92) : 0 < 2 ^ i ∧ (2 ^ i : Nat) < 256 ∧ (((2 ^ i : Nat)) : Int) ≠ 0 ∧ -9223372036854775808 ≤ x.tdiv ((2 ^ i : Nat) : Int) ∧ x.tdiv ((2 ^ i : Nat) : Int) ≤ 9223372036854775807 := by
 have h : ∀ i : Fin 8, ∀ x ∈ [(54 : Int), 92], 0 < 2 ^ i.val ∧ (2 ^ i.val : Nat) < 256 ∧ (((2 ^ i.val : Nat)) : Int) ≠ 0 ∧ -9223372036854775808 ≤ x.tdiv ((2 ^ i.val : Nat) : Int) ∧ x.tdiv ((2 ^ i.val : Nat) : Int) ≤ 9223372036854775807 := by decide +kernel
 exact h ⟨i, hi⟩ x (by rcases hx with rfl | rfl <;> simp)
def trn (K : List Byte) (x : Byte) (i : Nat) : List Byte := dl 64 fun q => if q < i then lit K q ^^^ x else 0#8
theorem trn_set (K : List Byte) (x : Byte) {i : Nat} (hi : i < 64) : (trn K x i).set i (lit K i ^^^ x) = trn K x (i + 1) := by
 have hl : (trn K x i).length = 64 := dl_length _ _
 refine lext (by rw [List.length_set, hl]; exact (dl_length _ _).symm) fun q hq => ?_
 rw [List.length_set, hl] at hq
 have e : ∀ v, lit ((trn K x i).set i v) q = if q = i then v else lit (trn K x i) q := fun v => by
   unfold lit
   rw [List.getD_eq_getElem?_getD, List.getD_eq_getElem?_getD, List.getElem?_set]
   by_cases h : q = i
   · subst h; rw [if_pos rfl, if_pos rfl, if_pos (by omega)]; rfl
   · rw [if_neg (fun h2 => h h2.symm), if_neg h]
 rw [e]
 unfold trn
 rw [lit_dl _ hq, lit_dl _ hq]
 by_cases h : q = i
 · subst h; rw [if_pos rfl, if_pos (by omega)]
 · rw [if_neg h]
   by_cases h2 : q < i
   · rw [if_pos h2, if_pos (by omega)]
   · rw [if_neg h2, if_neg (by omega)]
theorem trn_zero (K : List Byte) (x : Byte) : List.replicate 64 0#8 = trn K x 0 := by
 refine lext (by rw [List.length_replicate]; exact (dl_length _ _).symm) fun q hq => ?_
 rw [List.length_replicate] at hq
 unfold trn
 rw [lit_dl _ hq, if_neg (by omega)]
 unfold lit
 rw [List.getD_eq_getElem?_getD, List.getElem?_replicate, if_pos hq]; rfl
theorem trn_all (K : List Byte) (x : Byte) : trn K x 64 = dl 64 fun q => lit K q ^^^ x := dl_congr fun q hq => if_pos hq
theorem turned_ok {X : List Byte} (hX : X.length < 70368744177664) {x : Int} (hx : x = 54 ∨ x = 92) : letheref03_turned X x (padK X (BitVec.ofInt 8 x)) := by
 unfold letheref03_turned
 by_cases h : 64 < X.length
 · rw [if_pos h]
   have eP : padK X (BitVec.ofInt 8 x) = trn (dl 32 (shaL X)) (BitVec.ofInt 8 x) 64 := by
     rw [trn_all]; unfold padK keyK; rw [if_pos h]
   generalize hK : dl 32 (shaL X) = K at eP
   have hKl : K.length = 32 := by rw [← hK]; exact dl_length _ _
   refine ⟨_, refsum_ok hX, _, ?_, rfl⟩
   rw [eP, trn_zero K (BitVec.ofInt 8 x), hK]
   refine Iter.count (fun i => (K, trn K (BitVec.ofInt 8 x) i, i)) 64 (fun i hi => ?_) ?_
   · unfold letheref03_turned_l0; dsimp only
     rw [if_pos hi]
     refine ⟨K, trn K (BitVec.ofInt 8 x) i, (lit K i).toNat, ?_, K, trn K (BitVec.ofInt 8 x) i, nb (lit K i).toNat x 8, ?_, by rw [List.length_replicate]; exact hi, ?_⟩
     · by_cases h2 : i < 32
       · rw [if_pos h2]; exact ⟨h2, rfl, rfl, rfl⟩
       · rw [if_neg h2]; exact ⟨rfl, rfl, by rw [lit_out (by omega)]; rfl⟩
     · refine Iter.count (fun j => (K, trn K (BitVec.ofInt 8 x) i, nb (lit K i).toNat x j, 2 ^ j)) 8 (fun j hj => ?_) ?_
       · unfold letheref03_turned_l1; dsimp only
         have hb := bit_bd hj hx
         have hk := (lit K i).isLt
         have hn := nb_le (lit K i).toNat x j
         rw [if_pos hb.2.1]
         refine ⟨hb.1, by omega, hb.2.2.1, ⟨hb.2.2.2.1, hb.2.2.2.2⟩, ?_⟩
         rw [nb]
         by_cases hc : ((((lit K i).toNat / 2 ^ j % 2 : Nat)) : Int) ≠ (x.tdiv ((2 ^ j : Nat) : Int)).tmod 2
         · rw [if_pos hc, if_pos hc]; exact ⟨by omega, rfl⟩
         · rw [if_neg hc, if_neg hc]; rfl
       · unfold letheref03_turned_l1; dsimp only; rw [if_neg (by decide)]
     · rw [nb_byte _ hx, trn_set K _ hi]
   · unfold letheref03_turned_l0; dsimp only; rw [if_neg (by omega)]
 · rw [if_neg h]
   have eP : padK X (BitVec.ofInt 8 x) = trn X (BitVec.ofInt 8 x) 64 := by
     rw [trn_all]; unfold padK keyK; rw [if_neg h]
   refine ⟨_, ?_, rfl⟩
   rw [eP, trn_zero X (BitVec.ofInt 8 x)]
   refine Iter.count (fun i => (trn X (BitVec.ofInt 8 x) i, i)) 64 (fun i hi => ?_) ?_
   · unfold letheref03_turned_l2; dsimp only
     rw [if_pos hi]
     refine ⟨trn X (BitVec.ofInt 8 x) i, (lit X i).toNat, ?_, trn X (BitVec.ofInt 8 x) i, nb (lit X i).toNat x 8, ?_, by rw [List.length_replicate]; exact hi, ?_⟩
     · by_cases h2 : i < X.length
       · rw [if_pos h2]; exact ⟨h2, rfl, rfl⟩
       · rw [if_neg h2]; exact ⟨rfl, by rw [lit_out (by omega)]; rfl⟩
     · refine Iter.count (fun j => (trn X (BitVec.ofInt 8 x) i, nb (lit X i).toNat x j, 2 ^ j)) 8 (fun j hj => ?_) ?_
       · unfold letheref03_turned_l3; dsimp only
         have hb := bit_bd hj hx
         have hk := (lit X i).isLt
         have hn := nb_le (lit X i).toNat x j
         rw [if_pos hb.2.1]
         refine ⟨hb.1, by omega, hb.2.2.1, ⟨hb.2.2.2.1, hb.2.2.2.2⟩, ?_⟩
         rw [nb]
         by_cases hc : ((((lit X i).toNat / 2 ^ j % 2 : Nat)) : Int) ≠ (x.tdiv ((2 ^ j : Nat) : Int)).tmod 2
         · rw [if_pos hc, if_pos hc]; exact ⟨by omega, rfl⟩
         · rw [if_neg hc, if_neg hc]; rfl
       · unfold letheref03_turned_l3; dsimp only; rw [if_neg (by decide)]
     · rw [nb_byte _ hx, trn_set X _ hi]
   · unfold letheref03_turned_l2; dsimp only; rw [if_neg (by omega)]
theorem joined_ok {P : List (List Byte)} (hp : P.length < 9223372036854775807) (hl : P.flatten.length ≤ 140737488355328) : letheref03_Joined P P.flatten := by
 refine ⟨_, ?_, rfl⟩
 have key : Iter (letheref03_Joined_l0 P) ((P.take 0).flatten, 0) (P.take P.length).flatten :=
   Iter.count (fun i => ((P.take i).flatten, i)) P.length (fun i hi => by
     unfold letheref03_Joined_l0; dsimp only
     have h1 := flatten_take hi
     have h2 := flatten_len P (i + 1)
     rw [h1, List.length_append] at h2
     rw [if_pos hi, h1]
     exact ⟨hi, by omega, by omega, rfl⟩) (by
     unfold letheref03_Joined_l0; dsimp only; rw [if_neg (by omega)])
 rw [List.take_length] at key
 exact key
theorem refmac_ok {K T : List Byte} (hk : K.length < 70368744177664) (ht : T.length < 1000000000) : letheref03_Mac K T (macL K T) := by
 have l1 := padK_length K 54#8
 have l2 := padK_length K 92#8
 have j1 := joined_ok (P := [padK K 54#8, T]) (by simp) (by simp only [List.flatten_cons, List.flatten_nil, List.append_nil, List.length_append]; omega)
 have j2 := joined_ok (P := [padK K 92#8, dl 32 (shaL (padK K 54#8 ++ T))]) (by simp) (by simp only [List.flatten_cons, List.flatten_nil, List.append_nil, List.length_append, dl_length]; omega)
 simp only [List.flatten_cons, List.flatten_nil, List.append_nil] at j1 j2
 exact ⟨_, turned_ok hk (.inl rfl), _, j1, _, refsum_ok (by rw [List.length_append]; omega), _, turned_ok hk (.inr rfl), _, j2, _, refsum_ok (by rw [List.length_append, dl_length]; omega), rfl⟩
theorem refexpand_ok {prk info : List Byte} {n : Nat} (hp : prk.length < 70368744177664) (hi : info.length < 1000000) (hn : n ≤ 8160) :
   letheref03_Expand prk info (n : Int) (.inr (expL prk info n, 0)) := by
 unfold letheref03_Expand
 rw [if_neg (by omega), if_neg (by omega)]
 refine ⟨expO prk info ((n + 31) / 32), ?_, by omega, by rw [expO_length]; omega, rfl⟩
 refine Iter.count (fun i => (expO prk info i, expT prk info i, i + 1)) ((n + 31) / 32) (fun i hi2 => ?_) ?_
 · unfold letheref03_Expand_l0; dsimp only
   have hl := expO_length prk info i
   have hl2 := expT_le prk info i
   rw [if_pos (by omega)]
   have j := joined_ok (P := [expT prk info i, info, [BitVec.ofNat 8 (i + 1)]]) (by simp) (by simp only [List.flatten_cons, List.flatten_nil, List.append_nil, List.length_append, List.length_singleton]; omega)
   simp only [List.flatten_cons, List.flatten_nil, List.append_nil] at j
   exact ⟨_, j, _, refmac_ok hp (by simp only [List.length_append, List.length_singleton]; omega), by omega, by omega, rfl⟩
 · unfold letheref03_Expand_l0; dsimp only
   have hl := expO_length prk info ((n + 31) / 32)
   rw [if_neg (by omega)]
theorem refderive_ok {salt key info : List Byte} {n : Nat} (hs : salt.length < 70368744177664) (hk : key.length < 1000000000) (hi : info.length < 1000000) (hn : n ≤ 8160) :
   letheref03_Derive salt key info (n : Int) (.inr (expL (dl 32 (macL salt key)) info n, 0)) :=
 ⟨_, ⟨_, refmac_ok hs hk, rfl⟩, .inr ⟨_, _, refexpand_ok (by rw [dl_length]; decide) hi hn, rfl⟩⟩
end Go.Proofs.YtjclppnbbpnfnaaDoor
namespace Go.Proofs.YtjclppnbbpnfnaaDoor
set_option linter.unusedSimpArgs false
set_option linter.unusedVariables false
set_option linter.unusedSectionVars false
open Go Go.LW
set_option maxRecDepth 10000
def val10 (t : Nat → Int) : Nat → Int
 | 0 => 0
 | n + 1 => val10 t n + t n * 67108864 ^ n
def car (t : Nat → Int) (c0 : Int) : Nat → Int
 | 0 => c0
 | i + 1 => (t i + car t c0 i).tdiv 67108864
def dig10 (t : Nat → Int) (c0 : Int) (i : Nat) : Int := (t i + car t c0 i).tmod 67108864
def low10 (t : Nat → Int) (c0 : Int) (i : Nat) : Nat → Int := fun q => if q < i then dig10 t c0 q else t q
theorem car_val (t : Nat → Int) (h : ∀ i, 0 ≤ t i) (c0 : Int) (hc : 0 ≤ c0) : ∀ n, 0 ≤ car t c0 n ∧ val10 t n + c0 = val10 (dig10 t c0) n + car t c0 n * 67108864 ^ n
 | 0 => ⟨hc, by show 0 + c0 = 0 + c0 * 1; omega⟩
 | n + 1 => by
   obtain ⟨h1, h2⟩ := car_val t h c0 hc n
   have h3 := h n
   have h4 : 0 ≤ t n + car t c0 n := by omega
   refine ⟨Int.tdiv_nonneg h4 (by decide), ?_⟩
   have h5 : t n + car t c0 n = dig10 t c0 n + car t c0 (n + 1) * 67108864 := by
     show _ = (t n + car t c0 n).tmod 67108864 + (t n + car t c0 n).tdiv 67108864 * 67108864
     have := Int.tmod_add_mul_tdiv (t n + car t c0 n) 67108864
     omega
   show val10 t n + t n * 67108864 ^ n + c0 = val10 (dig10 t c0) n + dig10 t c0 n * 67108864 ^ n + car t c0 (n + 1) * 67108864 ^ (n + 1)
   rw [Int.pow_succ]
   have h6 : t n * 67108864 ^ n + car t c0 n * 67108864 ^ n = (dig10 t c0 n + car t c0 (n + 1) * 67108864) * 67108864 ^ n := by rw [← Int.add_mul, h5]
   generalize (67108864 : Int) ^ n = B at *
   have h7 : (dig10 t c0 n + car t c0 (n + 1) * 67108864) * B = dig10 t c0 n * B + car t c0 (n + 1) * (B * 67108864) := by rw [Int.add_mul, Int.mul_assoc, Int.mul_comm 67108864 B]
   omega
theorem car_lt (t : Nat → Int) (h : ∀ i, 0 ≤ t i) (c0 : Int) (hc : 0 ≤ c0) (i : Nat) : 0 ≤ dig10 t c0 i ∧ dig10 t c0 i < 67108864 := by
 have h1 := (car_val t h c0 hc i).1
 have h2 := h i
 exact ⟨Int.tmod_nonneg _ (by omega), Int.tmod_lt_of_pos _ (by decide)⟩
theorem val10_nonneg (t : Nat → Int) (h : ∀ i, 0 ≤ t i) : ∀ n, 0 ≤ val10 t n
 | 0 => Int.le_refl _
 | n + 1 => Int.add_nonneg (val10_nonneg t h n) (Int.mul_nonneg (h n) (Int.pow_nonneg (by decide)))
theorem val10_congr {t u : Nat → Int} : ∀ n, (∀ i, i < n → t i = u i) → val10 t n = val10 u n
 | 0, _ => rfl
 | n + 1, h => by show val10 t n + _ = val10 u n + _; rw [val10_congr n fun i hi => h i (by omega), h n (by omega)]
theorem car_le (t : Nat → Int) (h : ∀ i, 0 ≤ t i ∧ t i ≤ 4611686018427387904) (c0 : Int) (hc : 0 ≤ c0 ∧ c0 ≤ 137438953472) : ∀ n, car t c0 n ≤ 137438953472
 | 0 => hc.2
 | n + 1 => by
   have h1 := car_le t h c0 hc n
   have h2 := (car_val t (fun i => (h i).1) c0 hc.1 n).1
   have h3 := h n
   show (t n + car t c0 n).tdiv 67108864 ≤ _
   rw [Int.tdiv_eq_ediv_of_nonneg (by omega)]
   omega
theorem round_ok (t : Nat → Int) (h : ∀ i, 0 ≤ t i ∧ t i ≤ 4611686018427387904) : Iter letheref07_carried_l1 (0, 0, t) (car t 0 10, low10 t 0 10) := by
 have e0 : low10 t 0 0 = t := by funext q; unfold low10; rw [if_neg (by omega)]
 have key : Iter letheref07_carried_l1 (car t 0 0, 0, low10 t 0 0) (car t 0 10, low10 t 0 10) :=
   Iter.count (fun i => (car t 0 i, i, low10 t 0 i)) 10 (fun i hi => by
     unfold letheref07_carried_l1; dsimp only
     have e1 : low10 t 0 i i = t i := by unfold low10; rw [if_neg (by omega)]
     have h1 := car_le t h 0 (by omega) i
     have h2 := (car_val t (fun i => (h i).1) 0 (by omega) i).1
     have h3 := (car_val t (fun i => (h i).1) 0 (by omega) (i + 1)).1
     have h4 := car_le t h 0 (by omega) (i + 1)
     have h5 := h i
     have e2 : (t i + car t 0 i).tdiv 67108864 = car t 0 (i + 1) := rfl
     have e3 : upd (low10 t 0 i) i ((t i + car t 0 i).tmod 67108864) = low10 t 0 (i + 1) := by
       funext q; rw [upd_at]; unfold low10
       by_cases hq : q = i
       · subst hq; rw [if_pos rfl, if_pos (by omega)]; rfl
       · rw [if_neg hq]
         by_cases h6 : q < i
         · rw [if_pos h6, if_pos (by omega)]
         · rw [if_neg h6, if_neg (by omega)]
     rw [if_pos hi, e1, e2, e3]
     exact ⟨by omega, by omega, rfl⟩) (by
     unfold letheref07_carried_l1; dsimp only; rw [if_neg (by omega)])
 rw [e0] at key
 exact key
theorem iter_go7 {S X : Type} {step : S → S ⊕ X → Prop} (J : S → Prop) (Q : X → Prop) (μ : S → Nat)
   (h : ∀ s, J s → (∃ x, step s (.inr x) ∧ Q x) ∨ ∃ s', step s (.inl s') ∧ J s' ∧ μ s' < μ s) : ∀ n s, μ s < n → J s → ∃ x, Iter step s x ∧ Q x
 | 0, s, hn, _ => absurd hn (Nat.not_lt_zero _)
 | n + 1, s, hn, hJ => by
   rcases h s hJ with ⟨x, hx, hQ⟩ | ⟨s', hs, hJ', hm⟩
   · exact ⟨x, .done hx, hQ⟩
   · obtain ⟨x, hx, hQ⟩ := iter_go7 J Q μ h n s' (by omega) hJ'
     exact ⟨x, .more hs hx, hQ⟩
def Dig (t : Nat → Int) : Prop := ∀ i, 0 ≤ t i ∧ (i < 10 → t i < 67108864) ∧ t i ≤ 4611686018427387904
theorem val10_upd0 (t : Nat → Int) (v : Int) : ∀ n, val10 (upd t 0 v) (n + 1) = val10 t (n + 1) - t 0 + v
 | 0 => by show 0 + upd t 0 v 0 * 1 = 0 + t 0 * 1 - t 0 + v; rw [upd_same]; omega
 | n + 1 => by
   show val10 (upd t 0 v) (n + 1) + upd t 0 v (n + 1) * _ = val10 t (n + 1) + t (n + 1) * _ - t 0 + v
   rw [val10_upd0 t v n, upd_ne _ _ _ _ (by omega)]
   omega
theorem p260 : (67108864 : Int) ^ 10 = 32 * (p255 : Int) + 608 := by decide +kernel
theorem carried_ok (t : Nat → Int) (h : ∀ i, 0 ≤ t i ∧ t i ≤ 4611686018427387904) : ∃ r, letheref07_carried t r ∧ Dig r ∧ val10 r 10 % (p255 : Int) = val10 t 10 % (p255 : Int) ∧ (val10 t 10 < 67108864 ^ 10 → val10 r 10 = val10 t 10) := by
 obtain ⟨r, hI, hQ⟩ := iter_go7 (step := letheref07_carried_l0)
   (fun s : Int × (Nat → Int) => 0 ≤ s.1 ∧ (∀ i, 0 ≤ s.2 i ∧ s.2 i ≤ 4611686018427387904) ∧ val10 s.2 10 % (p255 : Int) = val10 t 10 % (p255 : Int) ∧ (s.1 = 0 → Dig s.2) ∧ (val10 t 10 < 67108864 ^ 10 → val10 s.2 10 = val10 t 10))
   (fun r => Dig r ∧ val10 r 10 % (p255 : Int) = val10 t 10 % (p255 : Int) ∧ (val10 t 10 < 67108864 ^ 10 → val10 r 10 = val10 t 10)) (fun s => 2 * (val10 s.2 10).toNat + (if 0 < s.1 then 1 else 0)) (by
   rintro ⟨c, m⟩ ⟨h0, h1, h2, h3, h4⟩
   dsimp only at h0 h1 h2 h3 h4 ⊢
   unfold letheref07_carried_l0
   dsimp only
   by_cases hc : 0 < c
   · have hv := car_val m (fun i => (h1 i).1) 0 (by omega) 10
     have hcl := car_le m h1 0 (by omega) 10
     have hd := car_lt m (fun i => (h1 i).1) 0 (by omega)
     have e0 : low10 m 0 10 0 = dig10 m 0 0 := by unfold low10; rw [if_pos (by omega)]
     have hd0 := hd 0
     have hval : val10 (low10 m 0 10) 10 = val10 (dig10 m 0) 10 := val10_congr 10 fun i hi => by unfold low10; rw [if_pos hi]
     have hnew : val10 (upd (low10 m 0 10) 0 (low10 m 0 10 0 + 608 * car m 0 10)) 10 = val10 m 10 - car m 0 10 * (32 * (p255 : Int)) := by
       have hv2 := hv.2
       rw [Int.add_zero, p260] at hv2
       rw [val10_upd0 _ _ 9, hval]
       generalize val10 (dig10 m 0) 10 = V at *
       generalize val10 m 10 = W at *
       generalize car m 0 10 = c1 at *
       generalize (p255 : Int) = p at *
       rw [hv2, Int.mul_add, e0]
       rw [Int.mul_comm c1 608]
       omega
     have hb1 := hv.1
     have h4' : val10 t 10 < 67108864 ^ 10 → val10 (upd (low10 m 0 10) 0 (low10 m 0 10 0 + 608 * car m 0 10)) 10 = val10 t 10 := fun hs => by
       have e4 := h4 hs
       have hV := val10_nonneg (dig10 m 0) (fun i => (hd i).1) 10
       have hv2 := hv.2
       have e5 : car m 0 10 = 0 := by
         rw [e4] at hv2
         have hB : (0 : Int) < 67108864 ^ 10 := Int.pow_pos (by decide)
         generalize (67108864 : Int) ^ 10 = B at *
         have : ¬ 0 < car m 0 10 := fun hc => by
           have : 1 * B ≤ car m 0 10 * B := Int.mul_le_mul_of_nonneg_right hc (by omega)
           omega
         omega
       rw [hnew, e5, Int.zero_mul, Int.sub_zero]
       exact e4
     generalize hcar : car m 0 10 = c1 at *
     refine .inr ⟨(c1, upd (low10 m 0 10) 0 (low10 m 0 10 0 + 608 * c1)), by rw [if_pos hc]; exact ⟨c1, _, by have := round_ok m h1; rw [hcar] at this; exact this, by omega, by omega, rfl⟩, ⟨hb1, fun i => ?_, ?_, fun hz i => ?_, h4'⟩, ?_⟩
     · dsimp only
       rw [upd_at]
       split
       · omega
       · unfold low10
         split
         · have := hd i; omega
         · exact h1 i
     · dsimp only
       rw [hnew, show c1 * (32 * (p255 : Int)) = (p255 : Int) * (32 * c1) by rw [Int.mul_comm, Int.mul_comm 32, Int.mul_assoc], Int.sub_mul_emod_self_left]
       exact h2
     · dsimp only at hz ⊢
       subst hz
       rw [upd_at]
       split
       · rename_i hi; subst hi; omega
       · unfold low10
         split
         · have := hd i; omega
         · have := h1 i; omega
     · dsimp only
       have hn := val10_nonneg m (fun i => (h1 i).1) 10
       rw [hnew, if_pos hc]
       have hp : (0 : Int) < (p255 : Int) := by decide +kernel
       have hV := val10_nonneg (dig10 m 0) (fun i => (hd i).1) 10
       have hE := hv.2
       rw [Int.add_zero, p260, Int.mul_add] at hE
       generalize (p255 : Int) = p at *
       split
       · have : 0 < c1 * (32 * p) := Int.mul_pos (by omega) (by omega)
         omega
       · obtain rfl : c1 = 0 := by omega
         rw [Int.zero_mul]; omega
   · obtain rfl : c = 0 := by omega
     exact .inl ⟨m, by rw [if_neg hc], h3 rfl, h2, h4⟩) (2 * (val10 t 10).toNat + 2) (1, t) (by dsimp only; rw [if_pos (by decide)]; omega) ⟨by show (0 : Int) ≤ 1; decide, h, rfl, fun h => absurd (show (1 : Int) = 0 from h) (by decide), fun _ => rfl⟩
 exact ⟨r, ⟨r, hI, rfl⟩, hQ⟩
def R7 (t : Nat → Int) (x : Fp) : Prop := Dig t ∧ val10 t 10 % (p255 : Int) = (x.val : Int)
theorem val10_add (t u : Nat → Int) : ∀ n, val10 (fun i => t i + u i) n = val10 t n + val10 u n
 | 0 => rfl
 | n + 1 => by
   show val10 (fun i => t i + u i) n + (t n + u n) * _ = val10 t n + t n * _ + (val10 u n + u n * _)
   rw [val10_add t u n, Int.add_mul]; omega
def add7 (a b : Nat → Int) (i : Nat) : Nat → Int := fun q => if q < i then a q + b q else a q
theorem add7_ok {a b : Nat → Int} {x y : Fp} (ha : R7 a x) (hb : R7 b y) : ∃ r, letheref07_Add a b r ∧ R7 r (x + y) := by
 have hl : ∀ i, 0 ≤ add7 a b 10 i ∧ add7 a b 10 i ≤ 4611686018427387904 := fun i => by
   have h1 := ha.1 i
   have h2 := hb.1 i
   unfold add7
   split <;> omega
 obtain ⟨r, h1, h2, h3, _⟩ := carried_ok (add7 a b 10) hl
 refine ⟨r, ⟨add7 a b 10, ?_, r, h1, rfl⟩, h2, ?_⟩
 · have e0 : add7 a b 0 = a := by funext q; unfold add7; rw [if_neg (by omega)]
   have key : Iter (letheref07_Add_l0 b) (0, add7 a b 0) (add7 a b 10) :=
     Iter.count (fun i => (i, add7 a b i)) 10 (fun i hi => by
       unfold letheref07_Add_l0; dsimp only
       have e1 : add7 a b i i = a i := by unfold add7; rw [if_neg (by omega)]
       have h4 := ha.1 i
       have h5 := hb.1 i
       have e3 : upd (add7 a b i) i (a i + b i) = add7 a b (i + 1) := by
         funext q; rw [upd_at]; unfold add7
         by_cases hq : q = i
         · subst hq; rw [if_pos rfl, if_pos (by omega)]
         · rw [if_neg hq]
           by_cases h6 : q < i
           · rw [if_pos h6, if_pos (by omega)]
           · rw [if_neg h6, if_neg (by omega)]
       rw [if_pos hi, e1, e3]
       exact ⟨by omega, rfl⟩) (by
       unfold letheref07_Add_l0; dsimp only; rw [if_neg (by omega)])
   rwa [e0] at key
 · have e : val10 (add7 a b 10) 10 = val10 a 10 + val10 b 10 := by
     rw [← val10_add]
     exact val10_congr 10 fun i hi => by unfold add7; rw [if_pos hi]
   rw [h3, e, Int.add_emod, ha.2, hb.2]
   show _ = (((x.val + y.val) % p255 : Nat) : Int)
   rw [Int.natCast_emod, Int.natCast_add]
def pd7 (i : Nat) : Int := if i = 0 then 134216512 else 134217726
theorem pd7_val : val10 pd7 10 = 64 * (p255 : Int) := by decide +kernel
theorem val10_sub (t u : Nat → Int) : ∀ n, val10 (fun i => t i - u i) n = val10 t n - val10 u n
 | 0 => rfl
 | n + 1 => by
   show val10 (fun i => t i - u i) n + (t n - u n) * _ = val10 t n + t n * _ - (val10 u n + u n * _)
   rw [val10_sub t u n, Int.sub_mul]; omega
def sub7 (a b : Nat → Int) (i : Nat) : Nat → Int := fun q => if q < i then a q + pd7 q - b q else a q
theorem sub7_ok {a b : Nat → Int} {x y : Fp} (ha : R7 a x) (hb : R7 b y) : ∃ r, letheref07_Sub a b r ∧ R7 r (x - y) := by
 have hp : ∀ i, 67108864 ≤ pd7 i ∧ pd7 i ≤ 134217726 := fun i => by unfold pd7; split <;> omega
 have hl : ∀ i, 0 ≤ sub7 a b 10 i ∧ sub7 a b 10 i ≤ 4611686018427387904 := fun i => by
   have h1 := ha.1 i
   have h2 := hb.1 i
   have h3 := hp i
   unfold sub7
   split <;> omega
 obtain ⟨r, h1, h2, h3, _⟩ := carried_ok (sub7 a b 10) hl
 refine ⟨r, ⟨sub7 a b 10, ?_, r, h1, rfl⟩, h2, ?_⟩
 · have e0 : sub7 a b 0 = a := by funext q; unfold sub7; rw [if_neg (by omega)]
   have key : Iter (letheref07_Sub_l0 b) (0, sub7 a b 0) (sub7 a b 10) :=
     Iter.count (fun i => (i, sub7 a b i)) 10 (fun i hi => by
       unfold letheref07_Sub_l0; dsimp only
       have e1 : sub7 a b i i = a i := by unfold sub7; rw [if_neg (by omega)]
       have h4 := ha.1 i
       have h5 := hb.1 i
       have e3 : upd (sub7 a b i) i (a i + pd7 i - b i) = sub7 a b (i + 1) := by
         funext q; rw [upd_at]; unfold sub7
         by_cases hq : q = i
         · subst hq; rw [if_pos rfl, if_pos (by omega)]
         · rw [if_neg hq]
           by_cases h6 : q < i
           · rw [if_pos h6, if_pos (by omega)]
           · rw [if_neg h6, if_neg (by omega)]
       rw [if_pos hi, e1]
       by_cases h0 : i = 0
       · have e4 : pd7 i = ((134216512 : Nat) : Int) := by unfold pd7; rw [if_pos h0]; rfl
         refine ⟨134216512, by rw [if_pos h0], by omega, by omega, ?_⟩
         rw [← e4, e3]
       · have e4 : pd7 i = ((134217726 : Nat) : Int) := by unfold pd7; rw [if_neg h0]; rfl
         refine ⟨134217726, by rw [if_neg h0], by omega, by omega, ?_⟩
         rw [← e4, e3]) (by
       unfold letheref07_Sub_l0; dsimp only; rw [if_neg (by omega)])
   rwa [e0] at key
 · have e : val10 (sub7 a b 10) 10 = val10 a 10 - val10 b 10 + (p255 : Int) * 64 := by
     have e1 : val10 (sub7 a b 10) 10 = val10 (fun i => (fun i => a i + pd7 i) i - b i) 10 := val10_congr 10 fun i hi => by unfold sub7; rw [if_pos hi]
     rw [e1, val10_sub, val10_add, pd7_val]
     omega
   rw [h3, e, Int.add_mul_emod_self_left, Int.sub_emod, ha.2, hb.2]
   have hy := y.isLt
   show _ = (((p255 - y.val + x.val) % p255 : Nat) : Int)
   rw [Int.natCast_emod, Int.natCast_add, Int.natCast_sub (Nat.le_of_lt hy)]
   rw [show ((p255 : Int) - y.val + x.val) = (x.val : Int) - y.val + (p255 : Int) * 1 by omega, Int.add_mul_emod_self_left]
def prow (c : Int) (b : Nat → Int) (i j : Nat) : Nat → Int := fun q => if i ≤ q ∧ q < i + j then c * b (q - i) else 0
theorem prow_val (c : Int) (b : Nat → Int) (i j : Nat) : ∀ k, val10 (prow c b i j) (i + j + k) = c * 67108864 ^ i * val10 b j
 | k + 1 => by
   show val10 (prow c b i j) (i + j + k) + prow c b i j (i + j + k) * _ = _
   have e : prow c b i j (i + j + k) = 0 := by unfold prow; rw [if_neg (by omega)]
   rw [e, Int.zero_mul, Int.add_zero]
   exact prow_val c b i j k
 | 0 => by
   rw [Nat.add_zero]
   have low : ∀ j n, n ≤ i → val10 (prow c b i j) n = 0 := by
     intro j n
     induction n with
     | zero => intro _; rfl
     | succ n ih =>
       intro hn
       show val10 (prow c b i j) n + prow c b i j n * _ = 0
       have e : prow c b i j n = 0 := by unfold prow; rw [if_neg (by omega)]
       rw [e, ih (by omega), Int.zero_mul]; rfl
   have key : ∀ j m, m ≤ j → val10 (prow c b i j) (i + m) = c * 67108864 ^ i * val10 b m := by
     intro j m
     induction m with
     | zero => intro _; rw [Nat.add_zero, low j i (Nat.le_refl _)]; show 0 = c * _ * 0; rw [Int.mul_zero]
     | succ m ih =>
       intro hm
       show val10 (prow c b i j) (i + m) + prow c b i j (i + m) * 67108864 ^ (i + m) = c * 67108864 ^ i * (val10 b m + b m * 67108864 ^ m)
       have e : prow c b i j (i + m) = c * b m := by unfold prow; rw [if_pos (by omega)]; congr 2; omega
       rw [e, ih (by omega), Int.pow_add, Int.mul_add]
       congr 1
       ac_rfl
   exact key j j (Nat.le_refl _)
def mulM (a b : Nat → Int) : Nat → (Nat → Int)
 | 0 => fun _ => 0
 | i + 1 => fun q => mulM a b i q + prow (a i) b i 10 q
theorem mulM_bd {a b : Nat → Int} (ha : Dig a) (hb : Dig b) : ∀ i, i ≤ 10 → ∀ q, 0 ≤ mulM a b i q ∧ mulM a b i q ≤ (i : Int) * 4503599627370496 ∧ (20 ≤ q → mulM a b i q = 0)
 | 0, _, q => ⟨Int.le_refl _, by show (0 : Int) ≤ 0 * _; omega, fun _ => rfl⟩
 | i + 1, hi, q => by
   obtain ⟨h1, h2, h3⟩ := mulM_bd ha hb i (by omega) q
   have h4 : 0 ≤ prow (a i) b i 10 q ∧ prow (a i) b i 10 q ≤ 4503599627370496 ∧ (20 ≤ q → prow (a i) b i 10 q = 0) := by
     unfold prow
     split
     · rename_i hq
       have hx := ha i
       have hy := hb (q - i)
       have hx2 := hx.2.1 (by omega)
       have hy2 := hy.2.1 (by omega)
       refine ⟨Int.mul_nonneg hx.1 hy.1, ?_, fun h => by omega⟩
       have := Int.mul_le_mul (show a i ≤ 67108864 by omega) (show b (q - i) ≤ 67108864 by omega) hy.1 (by decide)
       omega
     · exact ⟨Int.le_refl _, by decide, fun _ => rfl⟩
   refine ⟨Int.add_nonneg h1 h4.1, ?_, fun h => ?_⟩
   · show mulM a b i q + prow (a i) b i 10 q ≤ ((i + 1 : Nat) : Int) * 4503599627370496
     rw [Int.natCast_add, Int.add_mul]
     omega
   · show mulM a b i q + prow (a i) b i 10 q = 0
     rw [h3 h, h4.2.2 h]; rfl
theorem mulM_val (a b : Nat → Int) : ∀ i, i ≤ 10 → val10 (mulM a b i) 20 = val10 a i * val10 b 10
 | 0, _ => by
   have e : ∀ n, val10 (mulM a b 0) n = 0 := by
     intro n
     induction n with
     | zero => rfl
     | succ n ih => show val10 (mulM a b 0) n + 0 * _ = 0; rw [ih, Int.zero_mul]; rfl
   rw [e]; show 0 = 0 * _; rw [Int.zero_mul]
 | i + 1, hi => by
   have h1 := mulM_val a b i (by omega)
   have h2 := prow_val (a i) b i 10 (10 - i)
   rw [show i + 10 + (10 - i) = 20 by omega] at h2
   show val10 (fun q => mulM a b i q + prow (a i) b i 10 q) 20 = (val10 a i + a i * 67108864 ^ i) * val10 b 10
   rw [val10_add, h1, h2, Int.add_mul]
theorem mul_rows {a b : Nat → Int} (ha : Dig a) (hb : Dig b) : Iter (letheref07_Mul_l0 a b) (0, (fun _ => (0 : Int))) (mulM a b 10) := by
 refine Iter.count (fun i => (i, mulM a b i)) 10 (fun i hi => ?_) ?_
 · unfold letheref07_Mul_l0; dsimp only
   rw [if_pos hi]
   refine ⟨mulM a b (i + 1), ?_, rfl⟩
   have e0 : (fun q => mulM a b i q + prow (a i) b i 0 q) = mulM a b i := by
     funext q; unfold prow; rw [if_neg (by omega), Int.add_zero]
   have key : Iter (letheref07_Mul_l1 a b i) (0, fun q => mulM a b i q + prow (a i) b i 0 q) (fun q => mulM a b i q + prow (a i) b i 10 q) :=
     Iter.count (fun j => (j, fun q => mulM a b i q + prow (a i) b i j q)) 10 (fun j hj => by
       unfold letheref07_Mul_l1; dsimp only
       have e1 : prow (a i) b i j (i + j) = 0 := by unfold prow; rw [if_neg (by omega)]
       have hx := ha i
       have hy := hb j
       have hx2 := hx.2.1 (by omega)
       have hy2 := hy.2.1 (by omega)
       have h1 := (mulM_bd ha hb i (by omega) (i + j))
       have h2 := Int.mul_nonneg hx.1 hy.1
       have h3 := Int.mul_le_mul (show a i ≤ 67108864 by omega) (show b j ≤ 67108864 by omega) hy.1 (by decide)
       have e3 : upd (fun q => mulM a b i q + prow (a i) b i j q) (i + j) (mulM a b i (i + j) + 0 + a i * b j) = fun q => mulM a b i q + prow (a i) b i (j + 1) q := by
         funext q; rw [upd_at]
         by_cases hq : q = i + j
         · subst hq; rw [if_pos rfl]; unfold prow; rw [if_pos (by omega), show i + j - i = j by omega]; omega
         · rw [if_neg hq]; unfold prow
           by_cases h6 : i ≤ q ∧ q < i + j
           · rw [if_pos h6, if_pos (by omega)]
           · rw [if_neg h6, if_neg (by omega)]
       rw [if_pos hj, e1, e3]
       generalize a i * b j = z at *
       exact ⟨by omega, by omega, rfl⟩) (by
       unfold letheref07_Mul_l1; dsimp only; rw [if_neg (by omega)])
   rw [e0] at key
   exact key
 · unfold letheref07_Mul_l0; dsimp only; rw [if_neg (by omega)]
theorem val10_split (t : Nat → Int) (n : Nat) : ∀ m, val10 t (n + m) = val10 t n + 67108864 ^ n * val10 (fun i => t (n + i)) m
 | 0 => by show val10 t n = val10 t n + _ * 0; rw [Int.mul_zero, Int.add_zero]
 | m + 1 => by
   show val10 t (n + m) + t (n + m) * 67108864 ^ (n + m) = val10 t n + 67108864 ^ n * (val10 (fun i => t (n + i)) m + t (n + m) * 67108864 ^ m)
   rw [val10_split t n m, Int.pow_add, Int.mul_add]
   have : t (n + m) * (67108864 ^ n * 67108864 ^ m) = 67108864 ^ n * (t (n + m) * 67108864 ^ m) := by ac_rfl
   omega
theorem val10_lt (t : Nat → Int) (h : ∀ i, t i < 67108864) : ∀ n, val10 t n < 67108864 ^ n
 | 0 => by show (0 : Int) < 1; decide
 | n + 1 => by
   have h1 := val10_lt t h n
   have h2 : t n * 67108864 ^ n ≤ 67108863 * 67108864 ^ n := Int.mul_le_mul_of_nonneg_right (by have := h n; omega) (Int.pow_nonneg (by decide))
   show val10 t n + t n * 67108864 ^ n < 67108864 ^ (n + 1)
   rw [Int.pow_succ]
   generalize (67108864 : Int) ^ n = B at *
   omega
theorem mul_carry (t : Nat → Int) (h : ∀ i, 0 ≤ t i ∧ t i ≤ 4611686018427387904) : Iter letheref07_Mul_l2 (0, 0, t) (low10 t 0 20) := by
 have e0 : low10 t 0 0 = t := by funext q; unfold low10; rw [if_neg (by omega)]
 have key : Iter letheref07_Mul_l2 (car t 0 0, 0, low10 t 0 0) (low10 t 0 20) :=
   Iter.count (fun i => (car t 0 i, i, low10 t 0 i)) 20 (fun i hi => by
     unfold letheref07_Mul_l2; dsimp only
     have e1 : low10 t 0 i i = t i := by unfold low10; rw [if_neg (by omega)]
     have h1 := car_le t h 0 (by omega) i
     have h2 := (car_val t (fun i => (h i).1) 0 (by omega) i).1
     have h3 := (car_val t (fun i => (h i).1) 0 (by omega) (i + 1)).1
     have h4 := car_le t h 0 (by omega) (i + 1)
     have h5 := h i
     have e2 : (t i + car t 0 i).tdiv 67108864 = car t 0 (i + 1) := rfl
     have e3 : upd (low10 t 0 i) i ((t i + car t 0 i).tmod 67108864) = low10 t 0 (i + 1) := by
       funext q; rw [upd_at]; unfold low10
       by_cases hq : q = i
       · subst hq; rw [if_pos rfl, if_pos (by omega)]; rfl
       · rw [if_neg hq]
         by_cases h6 : q < i
         · rw [if_pos h6, if_pos (by omega)]
         · rw [if_neg h6, if_neg (by omega)]
     rw [if_pos hi, e1, e2, e3]
     exact ⟨by omega, by omega, rfl⟩) (by
     unfold letheref07_Mul_l2; dsimp only; rw [if_neg (by omega)])
 rw [e0] at key
 exact key
def fold7 (m : Nat → Int) (i : Nat) : Nat → Int := fun q => if q < i then m q + 608 * m (q + 10) else 0
theorem fold_ok {m : Nat → Int} (h : ∀ i, i < 20 → 0 ≤ m i ∧ m i < 67108864) : Iter (letheref07_Mul_l3 m) (0, (fun _ => (0 : Int))) (fold7 m 10) := by
 have e0 : fold7 m 0 = fun _ => (0 : Int) := by funext q; unfold fold7; rw [if_neg (by omega)]
 have key : Iter (letheref07_Mul_l3 m) (0, fold7 m 0) (fold7 m 10) :=
   Iter.count (fun i => (i, fold7 m i)) 10 (fun i hi => by
     unfold letheref07_Mul_l3; dsimp only
     have h1 := h i (by omega)
     have h2 := h (i + 10) (by omega)
     have e3 : upd (fold7 m i) i (m i + 608 * m (i + 10)) = fold7 m (i + 1) := by
       funext q; rw [upd_at]; unfold fold7
       by_cases hq : q = i
       · subst hq; rw [if_pos rfl, if_pos (by omega)]
       · rw [if_neg hq]
         by_cases h6 : q < i
         · rw [if_pos h6, if_pos (by omega)]
         · rw [if_neg h6, if_neg (by omega)]
     rw [if_pos hi, e3]
     exact ⟨by omega, by omega, rfl⟩) (by
     unfold letheref07_Mul_l3; dsimp only; rw [if_neg (by omega)])
 rwa [e0] at key
theorem val10_smul (c : Int) (t : Nat → Int) : ∀ n, val10 (fun i => c * t i) n = c * val10 t n
 | 0 => by show 0 = c * 0; rw [Int.mul_zero]
 | n + 1 => by
   show val10 (fun i => c * t i) n + c * t n * _ = c * (val10 t n + t n * _)
   rw [val10_smul c t n, Int.mul_add, Int.mul_assoc]
theorem val10_le (t : Nat → Int) (h : Dig t) : val10 t 10 < 67108864 ^ 10 := by
 have e : val10 t 10 = val10 (fun i => if i < 10 then t i else 0) 10 := val10_congr 10 fun i hi => by rw [if_pos hi]
 rw [e]
 exact val10_lt _ (fun i => by split; exact (h i).2.1 (by assumption); decide) 10
theorem mul7_ok {a b : Nat → Int} {x y : Fp} (ha : R7 a x) (hb : R7 b y) : ∃ r, letheref07_Mul a b r ∧ R7 r (x * y) := by
 have hM := mulM_bd ha.1 hb.1 10 (by omega)
 have hMb : ∀ i, 0 ≤ mulM a b 10 i ∧ mulM a b 10 i ≤ 4611686018427387904 := fun i => by
   have := hM i; omega
 have hv := car_val (mulM a b 10) (fun i => (hMb i).1) 0 (by omega) 20
 have hd := car_lt (mulM a b 10) (fun i => (hMb i).1) 0 (by omega)
 have hval := mulM_val a b 10 (by omega)
 have hB : (0 : Int) < 67108864 ^ 10 := Int.pow_pos (by decide)
 have c0 : car (mulM a b 10) 0 20 = 0 := by
   have h1 := val10_le a ha.1
   have h2 := val10_le b hb.1
   have h3 := val10_nonneg a (fun i => (ha.1 i).1) 10
   have h4 := val10_nonneg b (fun i => (hb.1 i).1) 10
   have h5 := val10_nonneg _ (fun i => (hd i).1) 20
   have hv2 := hv.2
   rw [hval, show (67108864 : Int) ^ 20 = 67108864 ^ 10 * 67108864 ^ 10 by rw [← Int.pow_add]] at hv2
   have hv1 := hv.1
   generalize (67108864 : Int) ^ 10 = B at *
   have h6 : val10 a 10 * val10 b 10 < B * B := Int.mul_lt_mul' (Int.le_of_lt h1) h2 h4 hB
   have : ¬ 0 < car (mulM a b 10) 0 20 := fun hc => by
     have : 1 * (B * B) ≤ car (mulM a b 10) 0 20 * (B * B) := Int.mul_le_mul_of_nonneg_right hc (by have := Int.mul_pos hB hB; omega)
     omega
   omega
 have hm : ∀ i, i < 20 → 0 ≤ low10 (mulM a b 10) 0 20 i ∧ low10 (mulM a b 10) 0 20 i < 67108864 := fun i hi => by
   unfold low10; rw [if_pos hi]; exact hd i
 have hlv : val10 (low10 (mulM a b 10) 0 20) 20 = val10 a 10 * val10 b 10 := by
   have e1 : val10 (low10 (mulM a b 10) 0 20) 20 = val10 (dig10 (mulM a b 10) 0) 20 := val10_congr 20 fun i hi => by unfold low10; rw [if_pos hi]
   have hv2 := hv.2
   rw [c0, hval, Int.zero_mul, Int.add_zero, Int.add_zero] at hv2
   rw [e1]; exact hv2.symm
 have hrows := mul_rows ha.1 hb.1
 have hcarry := mul_carry _ hMb
 generalize low10 (mulM a b 10) 0 20 = m at *
 have hf : ∀ i, 0 ≤ fold7 m 10 i ∧ fold7 m 10 i ≤ 4611686018427387904 := fun i => by
   unfold fold7
   split
   · have h1 := hm i (by omega)
     have h2 := hm (i + 10) (by omega)
     omega
   · omega
 obtain ⟨r, h1, h2, h3, _⟩ := carried_ok (fold7 m 10) hf
 refine ⟨r, ⟨_, hrows, m, hcarry, _, fold_ok hm, r, h1, rfl⟩, h2, ?_⟩
 have e1 : val10 (fold7 m 10) 10 = val10 m 10 + 608 * val10 (fun i => m (10 + i)) 10 := by
   rw [← val10_smul, ← val10_add]
   exact val10_congr 10 fun i hi => by unfold fold7; rw [if_pos hi, Nat.add_comm i 10]
 have e2 := val10_split m 10 10
 rw [hlv, p260] at e2
 have e3 : val10 (fold7 m 10) 10 = val10 a 10 * val10 b 10 + (p255 : Int) * (- (32 * val10 (fun i => m (10 + i)) 10)) := by
   rw [e1, e2, Int.add_mul, Int.mul_neg]
   generalize val10 (fun i => m (10 + i)) 10 = H
   generalize (p255 : Int) = p
   have : 32 * p * H = p * (32 * H) := by ac_rfl
   omega
 rw [h3, e3, Int.add_mul_emod_self_left, Int.mul_emod, ha.2, hb.2]
 show _ = (((x.val * y.val) % p255 : Nat) : Int)
 rw [Int.natCast_emod, Int.natCast_mul]
def one7 (n : Int) : Nat → Int := upd (fun _ => 0) 0 n
theorem of7 (n : Nat) (hn : n < 67108864) : ∃ r, letheref07_of (n : Int) r ∧ R7 r (Fin.ofNat p255 n) := by
 obtain ⟨r, h1, h2, h3, _⟩ := carried_ok (one7 n) (fun i => by unfold one7; rw [upd_at]; split <;> omega)
 refine ⟨r, ⟨r, h1, rfl⟩, h2, ?_⟩
 have e : val10 (one7 (n : Int)) 10 = (n : Int) := by
   unfold one7
   rw [val10_upd0 _ _ 9]
   have : val10 (fun _ => (0 : Int)) 10 = 0 := by decide +kernel
   rw [this]; omega
 rw [h3, e]
 show _ = (((n % p255 : Nat)) : Int)
 rw [Int.natCast_emod]
end Go.Proofs.YtjclppnbbpnfnaaDoor
namespace Go.Proofs.YtjclppnbbpnfnaaDoor
set_option linter.unusedSimpArgs false
set_option linter.unusedVariables false
set_option linter.unusedSectionVars false
open Go Go.LW
set_option maxRecDepth 10000
def ex7 : Nat → Nat
 | 0 => 0
 | i + 1 => if i ≠ 252 ∧ i ≠ 250 then 2 * ex7 i + 1 else 2 * ex7 i
theorem ex7_top : ex7 255 = p255 - 2 := by decide +kernel
theorem one7_ok : ∃ r, letheref07_of 1 r ∧ R7 r 1 := of7 1 (by decide)
theorem zero7_ok : ∃ r, letheref07_of 0 r ∧ R7 r 0 := of7 0 (by decide)
theorem inv7 {a : Nat → Int} {x : Fp} (ha : R7 a x) : ∃ r, letheref07_Inverse a r ∧ R7 r (invN x) := by
 obtain ⟨o, ho, hO⟩ := one7_ok
 obtain ⟨r, hI, hQ⟩ := iter_go7 (step := letheref07_Inverse_l0 a)
   (fun s : Int × (Nat → Int) => ∃ i : Nat, i ≤ 255 ∧ s.1 = 254 - (i : Int) ∧ R7 s.2 (x ^ ex7 i)) (fun r => R7 r (invN x)) (fun s => (s.1 + 1).toNat) (by
   rintro ⟨b, m⟩ ⟨i, hi, hb, hR⟩
   dsimp only at hb hR
   unfold letheref07_Inverse_l0
   dsimp only
   by_cases h : i < 255
   · obtain ⟨m2, hm, hM⟩ := mul7_ok hR hR
     rw [← fpow_add] at hM
     refine .inr ?_
     by_cases h1 : i = 252
     · refine ⟨(b - 1, m2), by rw [if_pos (by omega)]; exact ⟨m2, hm, by rw [if_neg (by omega)]⟩, ⟨i + 1, by omega, by dsimp only; omega, ?_⟩, by dsimp only; omega⟩
       unfold ex7; rw [if_neg (by omega), Nat.two_mul]; exact hM
     · by_cases h2 : i = 250
       · refine ⟨(b - 1, m2), by rw [if_pos (by omega)]; exact ⟨m2, hm, by rw [if_pos (by omega), if_neg (by omega)]⟩, ⟨i + 1, by omega, by dsimp only; omega, ?_⟩, by dsimp only; omega⟩
         unfold ex7; rw [if_neg (by omega), Nat.two_mul]; exact hM
       · obtain ⟨m3, hm3, hM3⟩ := mul7_ok hM ha
         refine ⟨(b - 1, m3), by rw [if_pos (by omega)]; exact ⟨m2, hm, by rw [if_pos (by omega), if_pos (by omega)]; exact ⟨m3, hm3, ⟨by omega, by omega⟩, rfl⟩⟩, ⟨i + 1, by omega, by dsimp only; omega, ?_⟩, by dsimp only; omega⟩
         have e : x ^ (ex7 i + ex7 i) * x = x ^ (2 * ex7 i + 1) := by
           rw [Nat.two_mul, fpow_add _ _ 1]; generalize x ^ (ex7 i + ex7 i) = y; grind
         unfold ex7; rw [if_pos (by omega), ← e]; exact hM3
   · obtain rfl : i = 255 := by omega
     refine .inl ⟨m, by rw [if_neg (by omega)], ?_⟩
     rw [ex7_top] at hR
     exact hR) 256 (254, o) (by show (255 : Int).toNat < 256; decide) ⟨0, by decide, rfl, by
       have : x ^ ex7 0 = 1 := fpow_zero x
       rw [this]; exact hO⟩
 exact ⟨r, ⟨o, ho, r, hI, rfl⟩, hQ⟩
theorem bit7 (k : Nat → BitVec 8) {i : Nat} (hi : i < 255) : letheref07_bit k (i : Int) (numB k 32 / 2 ^ i % 2) := by
 have d1 : ((i : Int).tdiv 8) = ((i / 8 : Nat) : Int) := by rw [Int.tdiv_eq_ediv_of_nonneg (by omega)]; omega
 have d2 : ((i : Int).tmod 8) = ((i % 8 : Nat) : Int) := by rw [Int.tmod_eq_emod_of_nonneg (by omega)]; omega
 unfold letheref07_bit
 rw [d1, d2, Int.toNat_natCast, Int.toNat_natCast]
 refine ⟨by omega, by omega, by omega, ?_⟩
 rw [← kbit_num k (show i < 256 by omega)]
 unfold kbit
 rw [Nat.and_one_is_mod, BitVec.toNat_ushiftRight, Nat.shiftRight_eq_div_pow]
theorem bit_low (N : Nat) {i : Nat} (hi : i < 255) : N % 2 ^ 255 / 2 ^ i % 2 = N / 2 ^ i % 2 := by
 have h := Nat.testBit_mod_two_pow N 255 i
 rw [Nat.testBit_eq_decide_div_mod_eq, Nat.testBit_eq_decide_div_mod_eq, decide_eq_true hi, Bool.true_and] at h
 have h1 : (N % 2 ^ 255 / 2 ^ i % 2 = 1) ↔ (N / 2 ^ i % 2 = 1) := decide_eq_decide.1 h
 have h2 : N % 2 ^ 255 / 2 ^ i % 2 < 2 := Nat.mod_lt _ (by decide)
 have h3 : N / 2 ^ i % 2 < 2 := Nat.mod_lt _ (by decide)
 generalize N % 2 ^ 255 / 2 ^ i % 2 = a at *
 generalize N / 2 ^ i % 2 = b at *
 omega
def rd7 (K t : Nat) : Nat → Int := fun j => ((K / 2 ^ (26 * j) % 67108864 / 2 ^ (t - 26 * j) : Nat) : Int)
theorem rd7_step (K t : Nat) (ht : t < 255) : upd (rd7 K (t + 1)) (t / 26) (2 * rd7 K (t + 1) (t / 26) + ((K / 2 ^ t % 2 : Nat) : Int)) = rd7 K t := by
 funext j
 rw [upd_at]
 by_cases hj : j = t / 26
 · rw [if_pos hj]
   subst hj
   unfold rd7
   obtain ⟨s, hs, hs2⟩ : ∃ s, t = 26 * (t / 26) + s ∧ s < 26 := ⟨t % 26, by omega, by omega⟩
   generalize t / 26 = j at hs ⊢
   subst hs
   rw [show 26 * j + s + 1 - 26 * j = s + 1 by omega, show 26 * j + s - 26 * j = s by omega, Nat.pow_add 2 (26 * j) s, ← Nat.div_div_eq_div_mul]
   generalize K / 2 ^ (26 * j) = d
   have e1 : d % 67108864 / 2 ^ s % 2 = d / 2 ^ s % 2 := by
     have h := Nat.testBit_mod_two_pow d 26 s
     rw [Nat.testBit_eq_decide_div_mod_eq, Nat.testBit_eq_decide_div_mod_eq, decide_eq_true hs2, Bool.true_and] at h
     have h1 : (d % 2 ^ 26 / 2 ^ s % 2 = 1) ↔ (d / 2 ^ s % 2 = 1) := decide_eq_decide.1 h
     have h2 : d % 2 ^ 26 / 2 ^ s % 2 < 2 := Nat.mod_lt _ (by decide)
     have h3 : d / 2 ^ s % 2 < 2 := Nat.mod_lt _ (by decide)
     show d % 2 ^ 26 / 2 ^ s % 2 = _
     generalize d % 2 ^ 26 / 2 ^ s % 2 = a at *
     generalize d / 2 ^ s % 2 = b at *
     omega
   rw [← e1, Nat.pow_succ, ← Nat.div_div_eq_div_mul]
   generalize d % 67108864 / 2 ^ s = y
   omega
 · rw [if_neg hj]
   unfold rd7
   have hlt : K / 2 ^ (26 * j) % 67108864 < 67108864 := Nat.mod_lt _ (by decide)
   by_cases h : j < t / 26
   · rw [Nat.div_eq_of_lt (Nat.lt_of_lt_of_le hlt (show 2 ^ 26 ≤ _ from Nat.pow_le_pow_right (by decide) (by omega))), Nat.div_eq_of_lt (Nat.lt_of_lt_of_le hlt (show 2 ^ 26 ≤ _ from Nat.pow_le_pow_right (by decide) (by omega)))]
   · rw [show t + 1 - 26 * j = 0 by omega, show t - 26 * j = 0 by omega]
theorem rd7_lt (K t j : Nat) : 0 ≤ rd7 K t j ∧ rd7 K t j < 67108864 := by
 have hlt : K / 2 ^ (26 * j) % 67108864 < 67108864 := Nat.mod_lt _ (by decide)
 have := Nat.div_le_self (K / 2 ^ (26 * j) % 67108864) (2 ^ (t - 26 * j))
 exact ⟨Int.natCast_nonneg _, Int.ofNat_lt.2 (Nat.lt_of_le_of_lt this hlt)⟩
theorem rd7_val (K : Nat) : ∀ n, val10 (rd7 K 0) n = ((K % 67108864 ^ n : Nat) : Int)
 | 0 => by show 0 = ((K % 1 : Nat) : Int); rw [Nat.mod_one]; rfl
 | n + 1 => by
   show val10 (rd7 K 0) n + rd7 K 0 n * 67108864 ^ n = _
   have e : rd7 K 0 n = ((K / 67108864 ^ n % 67108864 : Nat) : Int) := by
     unfold rd7
     rw [show 0 - 26 * n = 0 by omega, Nat.pow_zero, Nat.div_one, show (67108864 : Nat) = 2 ^ 26 by decide, ← Nat.pow_mul]
   rw [rd7_val K n, e, Nat.pow_succ, Nat.mod_mul, Int.natCast_add, Int.natCast_mul, Int.natCast_pow, Int.mul_comm]
   rfl
theorem read7 (k : Nat → BitVec 8) : ∃ r, letheref07_read k r ∧ R7 r (ofB k) := by
 refine ⟨rd7 (numB k 32 % 2 ^ 255) 0, ⟨_, ?_, rfl⟩, fun i => by have := rd7_lt (numB k 32 % 2 ^ 255) 0 i; omega, ?_⟩
 · have h := Iter.count (step := letheref07_read_l0 k) (x := rd7 (numB k 32 % 2 ^ 255) 0) (fun i => ((254 : Int) - (i : Int), rd7 (numB k 32 % 2 ^ 255) (255 - i))) 255 (fun i hi => by
     obtain ⟨t, ht, ht2⟩ : ∃ t : Nat, (254 : Int) - (i : Int) = (t : Int) ∧ t = 254 - i := ⟨254 - i, by omega, rfl⟩
     have d1 : ((t : Int).tdiv 26) = ((t / 26 : Nat) : Int) := by rw [Int.tdiv_eq_ediv_of_nonneg (by omega)]; omega
     have e : (254 : Int) - ((i + 1 : Nat) : Int) = (t : Int) - 1 := by omega
     rw [e, show 255 - i = t + 1 by omega, show 255 - (i + 1) = t by omega, ht]
     unfold letheref07_read_l0; dsimp only
     rw [d1, if_pos (by omega), Int.toNat_natCast]
     have hb := rd7_lt (numB k 32 % 2 ^ 255) (t + 1) (t / 26)
     have hx : numB k 32 / 2 ^ t % 2 < 2 := Nat.mod_lt _ (by decide)
     have hs := rd7_step (numB k 32 % 2 ^ 255) t (by omega)
     rw [bit_low _ (show t < 255 by omega)] at hs
     refine ⟨by omega, by omega, by omega, by omega, _, bit7 k (show t < 255 by omega), by omega, by omega, by omega, ?_⟩
     rw [hs]) (by
     unfold letheref07_read_l0; dsimp only; rw [if_neg (by omega)])
   have e0 : rd7 (numB k 32 % 2 ^ 255) (255 - 0) = fun _ => (0 : Int) := by
     funext j
     unfold rd7
     have hlt : numB k 32 % 2 ^ 255 / 2 ^ (26 * j) % 67108864 < 67108864 := Nat.mod_lt _ (by decide)
     by_cases h9 : j < 9
     · rw [Nat.div_eq_of_lt (Nat.lt_of_lt_of_le hlt (show 2 ^ 26 ≤ _ from Nat.pow_le_pow_right (by decide) (by omega)))]; rfl
     · by_cases h9' : j = 9
       · subst h9'
         have : numB k 32 % 2 ^ 255 < 2 ^ 255 := Nat.mod_lt _ (by decide)
         have h2 : numB k 32 % 2 ^ 255 / 2 ^ (26 * 9) < 2 ^ 21 := by
           rw [Nat.div_lt_iff_lt_mul (by decide), ← Nat.pow_add]; exact this
         generalize numB k 32 % 2 ^ 255 / 2 ^ (26 * 9) = d at *
         rw [Nat.mod_eq_of_lt (by omega), show 255 - 0 - 26 * 9 = 21 by decide, Nat.div_eq_of_lt h2]; rfl
       · have : numB k 32 % 2 ^ 255 < 2 ^ 255 := Nat.mod_lt _ (by decide)
         rw [Nat.div_eq_of_lt (Nat.lt_of_lt_of_le this (Nat.pow_le_pow_right (by decide) (by omega))), Nat.zero_mod, Nat.zero_div]; rfl
   rw [e0] at h
   exact h
 · rw [rd7_val]
   have h : numB k 32 % 2 ^ 255 < 2 ^ 255 := Nat.mod_lt _ (by decide)
   rw [Nat.mod_eq_of_lt (Nat.lt_trans h (by decide +kernel))]
   exact (Int.natCast_emod (numB k 32 % 2 ^ 255) p255).symm
end Go.Proofs.YtjclppnbbpnfnaaDoor
namespace Go.Proofs.YtjclppnbbpnfnaaDoor
set_option linter.unusedSimpArgs false
set_option linter.unusedVariables false
set_option linter.unusedSectionVars false
open Go Go.LW
set_option maxRecDepth 10000
theorem val10_upd9 (t : Nat → Int) (v : Int) : val10 (upd t 9 v) 10 = val10 t 9 + v * 67108864 ^ 9 := by
 show val10 (upd t 9 v) 9 + upd t 9 v 9 * 67108864 ^ 9 = _
 rw [upd_same, val10_congr 9 (fun i hi => upd_ne _ _ _ _ (by omega))]
theorem p234 : (2097152 : Int) * 67108864 ^ 9 = (p255 : Int) + 19 := by decide +kernel
theorem below7 {n : Nat → Int} {x : Fp} (hn : R7 n x) : ∃ m, Iter letheref07_write_l0 n m ∧ R7 m x ∧ m 9 < 2097152 := by
 obtain ⟨m, hI, hQ⟩ := iter_go7 (step := letheref07_write_l0) (fun m => R7 m x) (fun m => R7 m x ∧ m 9 < 2097152) (fun m => (val10 m 10).toNat) (by
   intro m hm
   unfold letheref07_write_l0
   by_cases h : 2097152 ≤ m 9
   · have h9 := hm.1 9
     have h0 := hm.1 0
     have q2 : m 9 = (m 9).tmod 2097152 + m 9 / 2 ^ 21 * 2097152 := by
       rw [Int.tmod_eq_emod_of_nonneg (by omega)]; omega
     have hr : 0 ≤ (m 9).tmod 2097152 ∧ (m 9).tmod 2097152 < 2097152 := by
       rw [Int.tmod_eq_emod_of_nonneg (by omega)]; omega
     have hq : 0 < m 9 / 2 ^ 21 ∧ m 9 / 2 ^ 21 < 32 := by omega
     have e0 : (upd m 9 ((m 9).tmod 2097152)) 0 = m 0 := upd_ne _ _ _ _ (by omega)
     generalize m 9 / 2 ^ 21 = q at *
     generalize hrr : (m 9).tmod 2097152 = r at *
     have hval : val10 (upd (upd m 9 r) 0 (m 0 + 19 * q)) 10 = val10 m 10 - (p255 : Int) * q := by
       rw [val10_upd0 _ _ 9, val10_upd9, e0]
       have e1 : val10 m 10 = val10 m 9 + m 9 * 67108864 ^ 9 := rfl
       have e2 := p234
       rw [e1, q2, Int.add_mul, Int.mul_assoc, e2, Int.mul_add, Int.mul_comm q (p255 : Int)]
       generalize r * 67108864 ^ 9 = z
       generalize (p255 : Int) * q = y
       omega
     have hle := val10_le m hm.1
     have hp : (0 : Int) < (p255 : Int) := by decide +kernel
     have hpq : 0 < (p255 : Int) * q := Int.mul_pos hp hq.1
     obtain ⟨r', c1, c2, c3, c4⟩ := carried_ok (upd (upd m 9 r) 0 (m 0 + 19 * q)) (fun i => by
       rw [upd_at]
       split
       · omega
       · rw [upd_at]
         split
         · omega
         · have := hm.1 i; omega)
     have c5 := c4 (by rw [hval]; omega)
     refine .inr ⟨r', ?_, ⟨c2, ?_⟩, ?_⟩
     · rw [if_pos h, e0]
       exact ⟨by omega, by omega, r', c1, rfl⟩
     · rw [c5, hval, Int.sub_mul_emod_self_left]; exact hm.2
     · have hn := val10_nonneg r' (fun i => (c2 i).1) 10
       rw [c5, hval] at *
       omega
   · refine .inl ⟨m, by rw [if_neg h], hm, by omega⟩) ((val10 n 10).toNat + 1) n (by omega) hn
 exact ⟨m, hI, hQ⟩
def Ex7 (t : Nat → Int) (x : Fp) : Prop := (∀ i, i < 10 → 0 ≤ t i ∧ t i < 67108864) ∧ val10 t 10 = (x.val : Int)
theorem exact7 {m : Nat → Int} {x : Fp} (hm : R7 m x) (h9 : m 9 < 2097152) : ∃ y : Nat → Int, letheref07_carried (upd m 0 (m 0 + 19)) y ∧ (2097152 ≤ y 9 → (y 9 - 2097152 < 67108864) ∧ 0 ≤ y 9 ∧ Ex7 (upd y 9 (y 9 - 2097152)) x) ∧ (¬ 2097152 ≤ y 9 → Ex7 m x) := by
 have h0 := hm.1 0
 have hval : val10 (upd m 0 (m 0 + 19)) 10 = val10 m 10 + 19 := by
   have h : val10 (upd m 0 (m 0 + 19)) 10 = val10 m 10 - m 0 + (m 0 + 19) := val10_upd0 _ _ 9
   omega
 have hn := val10_nonneg m (fun i => (hm.1 i).1) 10
 have h9' := hm.1 9
 have hB9 : (0 : Int) < 67108864 ^ 9 := Int.pow_pos (by decide)
 have hB9' : (19 : Int) < 67108864 ^ 9 := by decide +kernel
 have vlt : val10 m 10 < (p255 : Int) + 19 := by
   rw [← p234]
   have e1 : val10 m 10 = val10 m 9 + m 9 * 67108864 ^ 9 := rfl
   have e : val10 m 9 = val10 (fun i => if i < 9 then m i else 0) 9 := val10_congr 9 fun i hi => by rw [if_pos hi]
   have e2 : val10 m 9 < 67108864 ^ 9 := by rw [e]; exact val10_lt _ (fun i => by split; exact (hm.1 i).2.1 (by omega); decide) 9
   have e3 : m 9 * 67108864 ^ 9 ≤ 2097151 * 67108864 ^ 9 := Int.mul_le_mul_of_nonneg_right (by omega) (by omega)
   rw [e1]
   generalize (67108864 : Int) ^ 9 = B at *
   omega
 have hp : (p255 : Int) + 19 < 67108864 ^ 10 - 19 := by decide +kernel
 have hp2 : (19 : Int) < (p255 : Int) := by decide +kernel
 obtain ⟨y, c1, c2, c3, c4⟩ := carried_ok (upd m 0 (m 0 + 19)) (fun i => by
   rw [upd_at]
   split
   · omega
   · have := hm.1 i; omega)
 have c5 := c4 (by rw [hval]; omega)
 rw [hval] at c5
 have y1 : val10 y 10 = val10 y 9 + y 9 * 67108864 ^ 9 := rfl
 have hy9 := c2 9
 have hyn := val10_nonneg y (fun i => (c2 i).1) 9
 have hx := x.isLt
 have key : ∀ v : Int, 0 ≤ v → v < (p255 : Int) → v % (p255 : Int) = (x.val : Int) → v = (x.val : Int) := fun v h1 h2 h3 => by
   rwa [Int.emod_eq_of_lt h1 h2] at h3
 refine ⟨y, c1, fun h => ⟨by omega, by omega, ?_⟩, fun h => ?_⟩
 · have hge : (p255 : Int) ≤ val10 m 10 := by
     have : 2097152 * 67108864 ^ 9 ≤ y 9 * 67108864 ^ 9 := Int.mul_le_mul_of_nonneg_right h (by omega)
     have := p234
     omega
   have hv : val10 (upd y 9 (y 9 - 2097152)) 10 = val10 m 10 - (p255 : Int) := by
     rw [val10_upd9, Int.sub_mul, p234]
     omega
   have hlt9 : y 9 - 2097152 < 67108864 := by omega
   refine ⟨fun i hi => ?_, ?_⟩
   · rw [upd_at]
     split
     · omega
     · have := c2 i; omega
   · rw [hv]
     exact key _ (by omega) (by omega) (by
       have := Int.sub_mul_emod_self_left (val10 m 10) (p255 : Int) 1
       rw [Int.mul_one] at this
       rw [this]; exact hm.2)
 · have hlt : val10 m 10 < (p255 : Int) := by
     have e : val10 y 9 = val10 (fun i => if i < 9 then y i else 0) 9 := val10_congr 9 fun i hi => by rw [if_pos hi]
     have e2 : val10 y 9 < 67108864 ^ 9 := by rw [e]; exact val10_lt _ (fun i => by split; exact (c2 i).2.1 (by omega); decide) 9
     have e3 : y 9 * 67108864 ^ 9 ≤ 2097151 * 67108864 ^ 9 := Int.mul_le_mul_of_nonneg_right (by omega) (by omega)
     have e4 := p234
     generalize (67108864 : Int) ^ 9 = B at *
     omega
   refine ⟨fun i hi => by have := hm.1 i; omega, key _ hn hlt hm.2⟩
theorem dig_of {t : Nat → Int} (h : ∀ i, i < 10 → 0 ≤ t i ∧ t i < 67108864) (W : Nat) (hW : val10 t 10 = (W : Int)) : ∀ j, j < 10 → t j = ((W / 2 ^ (26 * j) % 67108864 : Nat) : Int) := by
 intro j hj
 have h1 := val10_split t j (10 - j)
 rw [show j + (10 - j) = 10 by omega, hW] at h1
 obtain ⟨k, hk⟩ : ∃ k, 10 - j = k + 1 := ⟨9 - j, by omega⟩
 have h2 := val10_split (fun i => t (j + i)) 1 k
 rw [Nat.add_comm 1 k, ← hk] at h2
 have h3 : val10 (fun i => t (j + i)) 1 = t j := by show 0 + t (j + 0) * 1 = _; rw [Nat.add_zero]; omega
 have elow : val10 t j = val10 (fun i => if i < j then t i else 0) j := val10_congr j fun i hi => by rw [if_pos hi]
 have l1 : val10 t j < 67108864 ^ j := by rw [elow]; exact val10_lt _ (fun i => by split; exact (h i (by omega)).2; decide) j
 have l0 : 0 ≤ val10 t j := by rw [elow]; exact val10_nonneg _ (fun i => by split; exact (h i (by omega)).1; decide) j
 have hj2 := h j hj
 have hB : (0 : Int) < 67108864 ^ j := Int.pow_pos (by decide)
 have eB : ((2 ^ (26 * j) : Nat) : Int) = 67108864 ^ j := by
   rw [Nat.pow_mul, Int.natCast_pow]; rfl
 rw [Int.natCast_emod, Int.natCast_ediv, eB, h1, Int.add_mul_ediv_left _ _ (Int.ne_of_gt hB), Int.ediv_eq_zero_of_lt l0 l1, Int.zero_add, h2, h3]
 show _ = (t j + (67108864 ^ 1) * _) % 67108864
 rw [show (67108864 : Int) ^ 1 = 67108864 by decide, Int.add_mul_emod_self_left, Int.emod_eq_of_lt hj2.1 hj2.2]
def wr7 (W i : Nat) : Nat → BitVec 8 := fun q => BitVec.ofNat 8 (W % 2 ^ i / 2 ^ (8 * q))
theorem wr7_step (W i : Nat) (_ : i < 255) : (if W / 2 ^ i % 2 = 1 then upd (wr7 W i) (i / 8) (wr7 W i (i / 8) + ((1#8) <<< (i % 8))) else wr7 W i) = wr7 W (i + 1) := by
 have e1 : W % 2 ^ (i + 1) = W % 2 ^ i + 2 ^ i * (W / 2 ^ i % 2) := by rw [Nat.pow_succ, Nat.mod_mul]
 split
 · rename_i hb
   rw [hb, Nat.mul_one] at e1
   funext q
   rw [upd_at]
   unfold wr7
   rw [e1]
   by_cases hq : q = i / 8
   · rw [if_pos hq]
     subst hq
     obtain ⟨s, hs, hs2⟩ : ∃ s, i = 8 * (i / 8) + s ∧ s < 8 ∧ s = i % 8 := ⟨i % 8, by omega, by omega⟩
     rw [← hs2.2]
     have e2 : 2 ^ i = 2 ^ (8 * (i / 8)) * 2 ^ s := by rw [← Nat.pow_add, ← hs]
     rw [e2, Nat.add_mul_div_left _ _ (Nat.pow_pos (by decide))]
     apply BitVec.eq_of_toNat_eq
     rw [BitVec.toNat_add, BitVec.toNat_ofNat, BitVec.toNat_ofNat, BitVec.toNat_shiftLeft, Nat.shiftLeft_eq, show (1#8 : BitVec 8).toNat = 1 by decide, Nat.one_mul, ← Nat.add_mod]
   · rw [if_neg hq]
     by_cases h : q < i / 8
     · have e2 : 2 ^ i = 2 ^ (8 * q) * (256 * 2 ^ (i - 8 * q - 8)) := by
         rw [show (256 : Nat) = 2 ^ 8 by decide, ← Nat.pow_add, ← Nat.pow_add]; congr 1; omega
       have e3 : (W % 2 ^ i + 2 ^ i) / 2 ^ (8 * q) = W % 2 ^ i / 2 ^ (8 * q) + 256 * 2 ^ (i - 8 * q - 8) := by
         rw [show W % 2 ^ i + 2 ^ i = W % 2 ^ i + 2 ^ (8 * q) * (256 * 2 ^ (i - 8 * q - 8)) by rw [← e2], Nat.add_mul_div_left _ _ (Nat.pow_pos (by decide))]
       rw [e3]
       apply BitVec.eq_of_toNat_eq
       rw [BitVec.toNat_ofNat, BitVec.toNat_ofNat]
       show _ % 256 = _ % 256
       rw [Nat.add_mul_mod_self_left]
     · have hlt : W % 2 ^ i < 2 ^ i := Nat.mod_lt _ (Nat.pow_pos (by decide))
       have hle : 2 ^ i * 2 ≤ 2 ^ (8 * q) := by rw [← Nat.pow_succ]; exact Nat.pow_le_pow_right (by decide) (by omega)
       rw [Nat.div_eq_of_lt (by omega), Nat.div_eq_of_lt (by omega)]
 · rename_i hb
   have : W / 2 ^ i % 2 = 0 := by omega
   rw [this, Nat.mul_zero, Nat.add_zero] at e1
   unfold wr7
   rw [e1, Nat.add_zero]
theorem write7 {n : Nat → Int} {x : Fp} (hn : R7 n x) : ∃ r, letheref07_write n r ∧ numB r 32 = x.val := by
 obtain ⟨m, hI, hm, h9⟩ := below7 hn
 obtain ⟨y, c1, c2, c3⟩ := exact7 hm h9
 have h0 := hm.1 0
 have hx := x.isLt
 have hp : p255 < 2 ^ 255 := by decide
 have bits : ∀ t : Nat → Int, Ex7 t x → Iter (letheref07_write_l1 t) (0, (fun _ => 0#8)) (wr7 x.val 255) := fun t ht => by
   have hd := dig_of ht.1 x.val ht.2
   have h := Iter.count (step := letheref07_write_l1 t) (x := wr7 x.val 255) (fun i => (i, wr7 x.val i)) 255 (fun i hi => by
     unfold letheref07_write_l1; dsimp only
     have hs := wr7_step x.val i hi
     have hdi := hd (i / 26) (by omega)
     have e : ((t (i / 26) / 2 ^ (i % 26)).tmod 2 = 1) ↔ (x.val / 2 ^ i % 2 = 1) := by
       have e1 : t (i / 26) / 2 ^ (i % 26) = ((x.val / 2 ^ (26 * (i / 26)) % 67108864 / 2 ^ (i % 26) : Nat) : Int) := by
         rw [hdi, Int.natCast_ediv _ (2 ^ (i % 26)), Int.natCast_pow]; rfl
       have e2 : x.val / 2 ^ (26 * (i / 26)) % 67108864 / 2 ^ (i % 26) % 2 = x.val / 2 ^ i % 2 := by
         obtain ⟨s, hs, hs2⟩ : ∃ s, i = 26 * (i / 26) + s ∧ s < 26 ∧ s = i % 26 := ⟨i % 26, by omega, by omega⟩
         rw [← hs2.2]
         have e3 : 2 ^ i = 2 ^ (26 * (i / 26)) * 2 ^ s := by rw [← Nat.pow_add, ← hs]
         rw [e3, ← Nat.div_div_eq_div_mul]
         generalize x.val / 2 ^ (26 * (i / 26)) = d
         have h := Nat.testBit_mod_two_pow d 26 s
         rw [Nat.testBit_eq_decide_div_mod_eq, Nat.testBit_eq_decide_div_mod_eq, decide_eq_true hs2.1, Bool.true_and] at h
         have h1 : (d % 2 ^ 26 / 2 ^ s % 2 = 1) ↔ (d / 2 ^ s % 2 = 1) := decide_eq_decide.1 h
         have h2 : d % 2 ^ 26 / 2 ^ s % 2 < 2 := Nat.mod_lt _ (by decide)
         have h3 : d / 2 ^ s % 2 < 2 := Nat.mod_lt _ (by decide)
         show d % 2 ^ 26 / 2 ^ s % 2 = _
         generalize d % 2 ^ 26 / 2 ^ s % 2 = a at *
         generalize d / 2 ^ s % 2 = b at *
         omega
       rw [e1, Int.tmod_eq_emod_of_nonneg (Int.natCast_nonneg _), ← e2]
       generalize x.val / 2 ^ (26 * (i / 26)) % 67108864 / 2 ^ (i % 26) = z
       omega
     rw [if_pos hi]
     refine ⟨by omega, ?_⟩
     by_cases hb : x.val / 2 ^ i % 2 = 1
     · rw [if_pos (e.2 hb)]; rw [if_pos hb] at hs; rw [hs]
     · rw [if_neg (fun h => hb (e.1 h))]; rw [if_neg hb] at hs; rw [hs]) (by
     unfold letheref07_write_l1; dsimp only; rw [if_neg (by omega)])
   have e0 : wr7 x.val 0 = fun _ => 0#8 := by
     funext q; unfold wr7; rw [Nat.pow_zero, Nat.mod_one, Nat.zero_div]
   rw [e0] at h
   exact h
 have hr : numB (wr7 x.val 255) 32 = x.val := by
   have h := numB_of (wr7 x.val 255) (N := x.val) (fun q => by
     unfold wr7
     rw [BitVec.toNat_ofNat, Nat.mod_eq_of_lt (show x.val < 2 ^ 255 by omega), show (256 : Nat) ^ q = 2 ^ (8 * q) by rw [Nat.pow_mul]]) 32
   rw [h, Nat.mod_eq_of_lt (Nat.lt_of_lt_of_le (show x.val < 2 ^ 255 by omega) (by decide))]
 by_cases h : 2097152 ≤ y 9
 · obtain ⟨d1, d2, d3⟩ := c2 h
   exact ⟨wr7 x.val 255, ⟨m, hI, by omega, y, c1, _, by rw [if_pos h]; exact ⟨by omega, rfl⟩, _, bits _ d3, rfl⟩, hr⟩
 · exact ⟨wr7 x.val 255, ⟨m, hI, by omega, y, c1, _, by rw [if_neg h], _, bits _ (c3 h), rfl⟩, hr⟩
end Go.Proofs.YtjclppnbbpnfnaaDoor
namespace Go.Proofs.YtjclppnbbpnfnaaDoor
set_option linter.unusedSimpArgs false
set_option linter.unusedVariables false
set_option linter.unusedSectionVars false
open Go Go.LW
set_option maxRecDepth 10000
theorem clamp7 (k : Nat → BitVec 8) : letheref07_Clamp k (clampF k) := by
 have a1 : ∀ x : BitVec 8, x - x % 8#8 = x &&& ~~~7#8 := by decide +kernel
 have a2 : ∀ x : BitVec 8, x % 64#8 + 64#8 = (x &&& 127#8) ||| 64#8 := by decide +kernel
 unfold letheref07_Clamp clampF
 rw [a1, a2]
theorem c121665 : ∃ r, letheref07_of 121665 r ∧ R7 r (ofN 121665) := of7 121665 (by decide)
theorem ladder7 {k : Nat → BitVec 8} {u : Nat → Int} {U : Fp} (hu : R7 u U) {t : Nat} (ht : t < 255) {a b c d : Nat → Int} {P Q : P1} (h1 : R7 a P.1) (h2 : R7 b P.2) (h3 : R7 c Q.1) (h4 : R7 d Q.2) :
   ∃ a' b' c' d', letheref07_Times_l0 k u ((t : Int), a, b, c, d) (.inl ((t : Int) - 1, a', b', c', d')) ∧
     R7 a' (if numB k 32 / 2 ^ t % 2 = 1 then (dadd U P Q, dbl Q) else (dbl P, dadd U P Q)).1.1 ∧
     R7 b' (if numB k 32 / 2 ^ t % 2 = 1 then (dadd U P Q, dbl Q) else (dbl P, dadd U P Q)).1.2 ∧
     R7 c' (if numB k 32 / 2 ^ t % 2 = 1 then (dadd U P Q, dbl Q) else (dbl P, dadd U P Q)).2.1 ∧
     R7 d' (if numB k 32 / 2 ^ t % 2 = 1 then (dadd U P Q, dbl Q) else (dbl P, dadd U P Q)).2.2 := by
 have step : ∀ {a b c d : Nat → Int} {P Q : P1}, R7 a P.1 → R7 b P.2 → R7 c Q.1 → R7 d Q.2 → ∃ x511, letheref07_Add a b x511 ∧ ∃ x515, letheref07_Sub a b x515 ∧ ∃ x519, letheref07_Add c d x519 ∧ ∃ x523, letheref07_Sub c d x523 ∧
     ∃ x534, letheref07_Mul x523 x511 x534 ∧ ∃ x538, letheref07_Mul x519 x515 x538 ∧ ∃ x547, letheref07_Add x534 x538 x547 ∧ ∃ x551, letheref07_Sub x534 x538 x551 ∧
     ∃ x558, letheref07_Mul x547 x547 x558 ∧ ∃ x564, letheref07_Mul x551 x551 x564 ∧ ∃ x567, letheref07_Mul u x564 x567 ∧ ∃ x574, letheref07_Mul x511 x511 x574 ∧ ∃ x578, letheref07_Mul x515 x515 x578 ∧
     ∃ x585, letheref07_Sub x574 x578 x585 ∧ ∃ x591, letheref07_Mul x574 x578 x591 ∧ ∃ x597, letheref07_of 121665 x597 ∧ ∃ x600, letheref07_Mul x597 x585 x600 ∧ ∃ x603, letheref07_Add x574 x600 x603 ∧ ∃ x606, letheref07_Mul x585 x603 x606 ∧
     R7 x591 (dbl P).1 ∧ R7 x606 (dbl P).2 ∧ R7 x558 (dadd U P Q).1 ∧ R7 x567 (dadd U P Q).2 := by
   intro a b c d P Q h1 h2 h3 h4
   obtain ⟨x1, p1, q1⟩ := add7_ok h1 h2
   obtain ⟨x2, p2, q2⟩ := sub7_ok h1 h2
   obtain ⟨x3, p3, q3⟩ := add7_ok h3 h4
   obtain ⟨x4, p4, q4⟩ := sub7_ok h3 h4
   obtain ⟨x5, p5, q5⟩ := mul7_ok q4 q1
   obtain ⟨x6, p6, q6⟩ := mul7_ok q3 q2
   obtain ⟨x7, p7, q7⟩ := add7_ok q5 q6
   obtain ⟨x8, p8, q8⟩ := sub7_ok q5 q6
   obtain ⟨x9, p9, q9⟩ := mul7_ok q7 q7
   obtain ⟨y1, r1, s1⟩ := mul7_ok q8 q8
   obtain ⟨y2, r2, s2⟩ := mul7_ok hu s1
   obtain ⟨y3, r3, s3⟩ := mul7_ok q1 q1
   obtain ⟨y4, r4, s4⟩ := mul7_ok q2 q2
   obtain ⟨y5, r5, s5⟩ := sub7_ok s3 s4
   obtain ⟨y6, r6, s6⟩ := mul7_ok s3 s4
   obtain ⟨y7, r7, s7⟩ := c121665
   obtain ⟨y8, r8, s8⟩ := mul7_ok s7 s5
   obtain ⟨y9, r9, s9⟩ := add7_ok s3 s8
   obtain ⟨z1, t1, v1⟩ := mul7_ok s5 s9
   exact ⟨x1, p1, x2, p2, x3, p3, x4, p4, x5, p5, x6, p6, x7, p7, x8, p8, x9, p9, y1, r1, y2, r2, y3, r3, y4, r4, y5, r5, y6, r6, y7, r7, y8, r8, y9, r9, z1, t1, s6, v1, q9, s2⟩
 by_cases hb : numB k 32 / 2 ^ t % 2 = 1
 · obtain ⟨x511, p1, x515, p2, x519, p3, x523, p4, x534, p5, x538, p6, x547, p7, x551, p8, x558, p9, x564, p10, x567, p11, x574, p12, x578, p13, x585, p14, x591, p15, x597, p16, x600, p17, x603, p18, x606, p19, q1, q2, q3, q4⟩ := step h3 h4 h1 h2
   rw [dadd_comm] at q3 q4
   rw [if_pos hb]
   refine ⟨x558, x567, x591, x606, ?_, q3, q4, q1, q2⟩
   unfold letheref07_Times_l0
   dsimp only
   rw [if_pos (by omega)]
   refine ⟨_, bit7 k ht, c, d, a, b, by rw [if_pos hb]; exact ⟨rfl, rfl, rfl, rfl⟩, x511, p1, x515, p2, x519, p3, x523, p4, x534, p5, x538, p6, x547, p7, x551, p8, x558, p9, x564, p10, x567, p11, x574, p12, x578, p13, x585, p14, x591, p15, x597, p16, x600, p17, x603, p18, x606, p19, ?_⟩
   rw [if_pos hb]
   exact ⟨by omega, rfl⟩
 · obtain ⟨x511, p1, x515, p2, x519, p3, x523, p4, x534, p5, x538, p6, x547, p7, x551, p8, x558, p9, x564, p10, x567, p11, x574, p12, x578, p13, x585, p14, x591, p15, x597, p16, x600, p17, x603, p18, x606, p19, q1, q2, q3, q4⟩ := step h1 h2 h3 h4
   rw [if_neg hb]
   refine ⟨x591, x606, x558, x567, ?_, q1, q2, q3, q4⟩
   unfold letheref07_Times_l0
   dsimp only
   rw [if_pos (by omega)]
   refine ⟨_, bit7 k ht, a, b, c, d, by rw [if_neg hb]; exact ⟨rfl, rfl, rfl, rfl⟩, x511, p1, x515, p2, x519, p3, x523, p4, x534, p5, x538, p6, x547, p7, x551, p8, x558, p9, x564, p10, x567, p11, x574, p12, x578, p13, x585, p14, x591, p15, x597, p16, x600, p17, x603, p18, x606, p19, ?_⟩
   rw [if_neg hb]
   exact ⟨by omega, rfl⟩
theorem times7 (k u : Nat → BitVec 8) : ∃ r, letheref07_Times k u r ∧ numB r 32 = (timesN (numB (clampF k) 32) (ofB u)).val := by
 obtain ⟨x, hx, hX⟩ := read7 u
 obtain ⟨o, ho, hO⟩ := one7_ok
 obtain ⟨z, hz, hZ⟩ := zero7_ok
 obtain ⟨⟨a, b⟩, hI, hQ⟩ := iter_go7 (step := letheref07_Times_l0 (clampF k) x)
   (fun s : Int × (Nat → Int) × (Nat → Int) × (Nat → Int) × (Nat → Int) => ∃ i : Nat, i ≤ 255 ∧ s.1 = 254 - (i : Int) ∧ R7 s.2.1 (mont (numB (clampF k) 32) (ofB u) i).1.1 ∧ R7 s.2.2.1 (mont (numB (clampF k) 32) (ofB u) i).1.2 ∧ R7 s.2.2.2.1 (mont (numB (clampF k) 32) (ofB u) i).2.1 ∧ R7 s.2.2.2.2 (mont (numB (clampF k) 32) (ofB u) i).2.2)
   (fun p => R7 p.1 (mont (numB (clampF k) 32) (ofB u) 255).1.1 ∧ R7 p.2 (mont (numB (clampF k) 32) (ofB u) 255).1.2) (fun s => (s.1 + 1).toNat) (by
   rintro ⟨t, a, b, c, d⟩ ⟨i, hi, ht, h1, h2, h3, h4⟩
   dsimp only at ht h1 h2 h3 h4 ⊢
   by_cases h : i < 255
   · obtain ⟨a', b', c', d', hs, k1, k2, k3, k4⟩ := ladder7 (k := clampF k) hX (show 254 - i < 255 by omega) h1 h2 h3 h4
     have e : t = ((254 - i : Nat) : Int) := by omega
     rw [← e] at hs
     exact .inr ⟨(t - 1, a', b', c', d'), hs, ⟨i + 1, by omega, by dsimp only; omega, k1, k2, k3, k4⟩, by dsimp only; omega⟩
   · obtain rfl : i = 255 := by omega
     refine .inl ⟨(a, b), ?_, h1, h2⟩
     unfold letheref07_Times_l0
     dsimp only
     rw [if_neg (by omega)]) 256 (254, o, z, x, o) (by show (255 : Int).toNat < 256; decide) ⟨0, by decide, rfl, hO, hZ, hX, hO⟩
 obtain ⟨j, hj, hJ⟩ := inv7 hQ.2
 obtain ⟨m, hm, hM⟩ := mul7_ok hQ.1 hJ
 obtain ⟨r, hr, hR⟩ := write7 hM
 exact ⟨r, ⟨_, clamp7 k, x, hx, o, ho, z, hz, o, ho, a, b, hI, j, hj, m, hm, r, hr, rfl⟩, hR⟩
end Go.Proofs.YtjclppnbbpnfnaaDoor
