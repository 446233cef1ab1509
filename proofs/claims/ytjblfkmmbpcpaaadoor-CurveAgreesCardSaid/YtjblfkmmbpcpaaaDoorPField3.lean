/-
  PLAIN (own work), FIELD PART 3: the one form of 32 bytes.
-/
import Derived.Test.YtjblfkmmbpcpaaaDoorPField2
namespace Go.Proofs.YtjblfkmmbpcpaaaDoor
set_option linter.unusedSimpArgs false
set_option linter.unusedVariables false
set_option linter.unusedSectionVars false
open Go Go.LW

/-! ### the number below the prime -/
def qC (x : F5) : Nat → BitVec 64
  | 0 => 19#64
  | i + 1 => (x i + qC x i) >>> 51
def topF (x : F5) : F5 := upd x 0 (x 0 + 19#64 * qC x 5)
def mP (y : F5) (t : Nat) : F5 := fun q => if q < t then (y q + carC y q) &&& 2251799813685247#64 else if q = t then y q + carC y q else y q
def canF (l : F5) : F5 := carM (topF (carF (carF l))) 5
theorem mP_zero (y : F5) : mP y 0 = y := by
  funext q
  unfold mP
  rw [if_neg (by omega)]
  by_cases h : q = 0
  · subst h; rw [if_pos rfl]; show y 0 + 0#64 = y 0; rw [BitVec.add_zero]
  · rw [if_neg h]
theorem mP_succ (y : F5) (t : Nat) : upd (upd (mP y t) (t + 1) (mP y t (t + 1) + (mP y t t >>> 51))) t ((upd (mP y t) (t + 1) (mP y t (t + 1) + (mP y t t >>> 51))) t &&& 2251799813685247#64) = mP y (t + 1) := by
  have e1 : mP y t t = y t + carC y t := by unfold mP; rw [if_neg (by omega), if_pos rfl]
  have e2 : mP y t (t + 1) = y (t + 1) := by unfold mP; rw [if_neg (by omega), if_neg (by omega)]
  funext q
  rw [upd_at]
  by_cases h : q = t
  · subst h
    rw [if_pos rfl, upd_ne _ _ _ _ (by omega), e1]
    unfold mP; rw [if_pos (by omega)]
  · rw [if_neg h, upd_at]
    by_cases h1 : q = t + 1
    · subst h1
      rw [if_pos rfl, e1, e2]
      unfold mP; rw [if_neg (by omega), if_pos rfl]; rfl
    · rw [if_neg h1]
      unfold mP
      by_cases h2 : q < t
      · rw [if_pos h2, if_pos (by omega)]
      · rw [if_neg h2, if_neg h, if_neg (by omega), if_neg h1]
theorem mP_top (y : F5) {q : Nat} (hq : q < 5) : upd (mP y 4) 4 (mP y 4 4 &&& 2251799813685247#64) q = carM y 5 q := by
  rw [upd_at]
  unfold mP carM
  by_cases h : q = 4
  · subst h; rw [if_pos rfl, if_neg (by omega), if_pos rfl, if_pos (by omega)]
  · rw [if_neg h, if_pos (by omega), if_pos hq]
theorem qC_num (x : F5) (h : Bnd (2 ^ 52) x) : ∀ i, i < 5 → (qC x i).toNat ≤ 19 ∧ (qC x (i + 1)).toNat = ((x i).toNat + (qC x i).toNat) / 2 ^ 51
  | 0, hi => by
    have := h 0 hi
    refine ⟨by show (19#64 : BitVec 64).toNat ≤ _; decide, ?_⟩
    show ((x 0 + qC x 0) >>> 51).toNat = _
    rw [shr_toNat, BitVec.toNat_add, Nat.mod_eq_of_lt (by show _ + (19#64 : BitVec 64).toNat < _; rw [BitVec.toNat_ofNat]; omega)]
  | i + 1, hi => by
    obtain ⟨h1, h2⟩ := qC_num x h i (by omega)
    have ha := h i (by omega)
    have hb := h (i + 1) hi
    have hc : (qC x (i + 1)).toNat ≤ 19 := by rw [h2]; omega
    refine ⟨hc, ?_⟩
    show ((x (i + 1) + qC x (i + 1)) >>> 51).toNat = _
    rw [shr_toNat, BitVec.toNat_add, Nat.mod_eq_of_lt (by omega)]
theorem canF_num (l : F5) (h : Bnd (2 ^ 63) l) : val (canF l) = val l % p255 ∧ Bnd (2 ^ 51) (canF l) := by
  obtain ⟨hx, hx0, hxr⟩ := carF2_num l h
  have hb1 : Bnd (2 ^ 63) (carF l) := fun q hq => Nat.lt_of_lt_of_le (carF_bnd l h q hq) (by decide)
  have hmod : val (carF (carF l)) % p255 = val l % p255 := by rw [carF_mod _ hb1, carF_mod _ h]
  unfold canF
  generalize carF (carF l) = x at hx hx0 hxr hmod ⊢
  have hb : Bnd (2 ^ 52) x := fun q hq => by
    by_cases e : q = 0
    · subst e; omega
    · have := hxr q (by omega) hq; omega
  have q0 : (qC x 0).toNat = 19 := rfl
  have q1 : (qC x 1).toNat = ((x 0).toNat + (qC x 0).toNat) / 2 ^ 51 := (qC_num x hb 0 (by omega)).2
  have q2 : (qC x 2).toNat = ((x 1).toNat + (qC x 1).toNat) / 2 ^ 51 := (qC_num x hb 1 (by omega)).2
  have q3 : (qC x 3).toNat = ((x 2).toNat + (qC x 2).toNat) / 2 ^ 51 := (qC_num x hb 2 (by omega)).2
  have q4 : (qC x 4).toNat = ((x 3).toNat + (qC x 3).toNat) / 2 ^ 51 := (qC_num x hb 3 (by omega)).2
  have q5 : (qC x 5).toNat = ((x 4).toNat + (qC x 4).toNat) / 2 ^ 51 := (qC_num x hb 4 (by omega)).2
  have b1 := hxr 1 (by omega) (by omega)
  have b2 := hxr 2 (by omega) (by omega)
  have b3 := hxr 3 (by omega) (by omega)
  have b4 := hxr 4 (by omega) (by omega)
  have hQ : (qC x 5).toNat = (val x + 19) / 2 ^ 255 := by
    unfold val
    rw [q0] at q1
    generalize (qC x 1).toNat = k1 at *
    generalize (qC x 2).toNat = k2 at *
    generalize (qC x 3).toNat = k3 at *
    generalize (qC x 4).toNat = k4 at *
    omega
  have hQ1 : (qC x 5).toNat ≤ 1 := by omega
  have t0 : (topF x 0).toNat = (x 0).toNat + 19 * (qC x 5).toNat := by
    show (upd x 0 (x 0 + 19#64 * qC x 5) 0).toNat = _
    rw [upd_same, BitVec.toNat_add, BitVec.toNat_mul, show (19#64 : BitVec 64).toNat = 19 by decide, Nat.mod_eq_of_lt (show 19 * (qC x 5).toNat < 2 ^ 64 by omega), Nat.mod_eq_of_lt (by omega)]
  have tq : ∀ q, 0 < q → topF x q = x q := fun q hq => upd_ne _ _ _ _ (by omega)
  have hy : Bnd (2 ^ 63) (topF x) := fun q hq => by
    by_cases e : q = 0
    · subst e; omega
    · rw [tq q (by omega)]; have := hxr q (by omega) hq; omega
  have hyv : val (topF x) = val x + 19 * (qC x 5).toNat := by
    unfold val; rw [t0, tq 1 (by omega), tq 2 (by omega), tq 3 (by omega), tq 4 (by omega)]; omega
  generalize topF x = y at hy hyv ⊢
  have c0 : (carC y 0).toNat = 0 := rfl
  have c1 : (carC y 1).toNat = ((y 0).toNat + (carC y 0).toNat) / 2 ^ 51 := (carC_num y hy 0 (by omega)).2
  have c2 : (carC y 2).toNat = ((y 1).toNat + (carC y 1).toNat) / 2 ^ 51 := (carC_num y hy 1 (by omega)).2
  have c3 : (carC y 3).toNat = ((y 2).toNat + (carC y 2).toNat) / 2 ^ 51 := (carC_num y hy 2 (by omega)).2
  have c4 : (carC y 4).toNat = ((y 3).toNat + (carC y 3).toNat) / 2 ^ 51 := (carC_num y hy 3 (by omega)).2
  have m0 := carM_num y hy (q := 0) (by omega)
  have m1 := carM_num y hy (q := 1) (by omega)
  have m2 := carM_num y hy (q := 2) (by omega)
  have m3 := carM_num y hy (q := 3) (by omega)
  have m4 := carM_num y hy (q := 4) (by omega)
  have hz : val (carM y 5) = val y % 2 ^ 255 := by
    unfold val
    rw [m0, m1, m2, m3, m4]
    rw [c0] at c1 m0
    rw [c0]
    generalize (carC y 1).toNat = k1 at *
    generalize (carC y 2).toNat = k2 at *
    generalize (carC y 3).toNat = k3 at *
    generalize (carC y 4).toNat = k4 at *
    omega
  refine ⟨?_, fun q hq => by rw [carM_num y hy hq]; omega⟩
  rw [hz, ← hmod, hyv]
  rw [show p255 = 57896044618658097711785492504343953926634992332820282019728792003956564819949 by decide]
  generalize (qC x 5).toNat = Q at hQ hQ1 ⊢
  generalize val x = v at hx hQ ⊢
  clear hmod hyv hz m0 m1 m2 m3 m4 c0 c1 c2 c3 c4 q0 q1 q2 q3 q4 q5
  rcases (by omega : Q = 0 ∨ Q = 1) with rfl | rfl
  · have hv : v < 57896044618658097711785492504343953926634992332820282019728792003956564819949 := by omega
    rw [Nat.mul_zero, Nat.add_zero, Nat.mod_eq_of_lt hv, Nat.mod_eq_of_lt (by omega)]
  · have hv : 57896044618658097711785492504343953926634992332820282019728792003956564819949 ≤ v := by omega
    rw [Nat.mod_eq_sub_mod hv, Nat.mod_eq_of_lt (show v - 57896044618658097711785492504343953926634992332820282019728792003956564819949 < 57896044618658097711785492504343953926634992332820282019728792003956564819949 by omega), Nat.mod_eq_sub_mod (show 2 ^ 255 ≤ v + 19 * 1 by omega), Nat.mod_eq_of_lt (by omega)]
    omega
end Go.Proofs.YtjblfkmmbpcpaaaDoor
