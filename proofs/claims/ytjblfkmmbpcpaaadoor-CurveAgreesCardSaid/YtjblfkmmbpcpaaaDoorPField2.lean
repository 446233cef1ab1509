/-
  PLAIN (own work), FIELD PART 2: carries; the one number below the prime.
-/
import Derived.Test.YtjblfkmmbpcpaaaDoorPField1
namespace Go.Proofs.YtjblfkmmbpcpaaaDoor
set_option linter.unusedSimpArgs false
set_option linter.unusedVariables false
set_option linter.unusedSectionVars false
open Go Go.LW

def p255 : Nat := 2 ^ 255 - 19

/-! ### carried -/
def carC (l : F5) : Nat → BitVec 64
  | 0 => 0#64
  | i + 1 => (l i + carC l i) >>> 51
def carM (l : F5) (i : Nat) : F5 := fun q => if q < i then (l q + carC l q) &&& 2251799813685247#64 else l q
def carF (l : F5) : F5 := upd (carM l 5) 0 (carM l 5 0 + 19#64 * carC l 5)
theorem carM_succ (l : F5) (i : Nat) : upd (upd (carM l i) i (carM l i i + carC l i)) i ((upd (carM l i) i (carM l i i + carC l i)) i &&& 2251799813685247#64) = carM l (i + 1) := by
  funext q
  rw [upd_at, upd_same, upd_at]
  unfold carM
  by_cases h : q = i
  · subst h; rw [if_pos rfl, if_neg (by omega), if_pos (by omega)]
  · rw [if_neg h, if_neg h]
    by_cases h2 : q < i
    · rw [if_pos h2, if_pos (by omega)]
    · rw [if_neg h2, if_neg (by omega)]
theorem car_ok (l : F5) : field_limbs_carried l (carF l) := by
  refine ⟨carC l 5, carM l 5, ?_, rfl⟩
  refine Iter.count (fun i => (carC l i, i, carM l i)) 5 (fun i hi => ?_) ?_
  · unfold field_limbs_carried_l0; dsimp only
    rw [if_pos hi, carM_succ, upd_same]
    have e : carM l i i = l i := if_neg (by omega)
    rw [e]
    rfl
  · unfold field_limbs_carried_l0; dsimp only
    rw [if_neg (by omega)]
theorem carC_num (l : F5) (h : Bnd (2 ^ 63) l) : ∀ i, i < 5 → (carC l i).toNat < 2 ^ 13 ∧ (carC l (i + 1)).toNat = ((l i).toNat + (carC l i).toNat) / 2 ^ 51
  | 0, hi => by
    refine ⟨by show (0#64 : BitVec 64).toNat < _; decide, ?_⟩
    show ((l 0 + carC l 0) >>> 51).toNat = _
    have := h 0 hi
    rw [shr_toNat, BitVec.toNat_add, Nat.mod_eq_of_lt (by show _ + (0#64 : BitVec 64).toNat < _; rw [BitVec.toNat_ofNat]; omega)]
  | i + 1, hi => by
    obtain ⟨h1, h2⟩ := carC_num l h i (by omega)
    have ha := h i (by omega)
    have hb := h (i + 1) hi
    have hc : (carC l (i + 1)).toNat < 2 ^ 13 := by rw [h2]; omega
    refine ⟨hc, ?_⟩
    show ((l (i + 1) + carC l (i + 1)) >>> 51).toNat = _
    rw [shr_toNat, BitVec.toNat_add, Nat.mod_eq_of_lt (by omega)]
theorem carM_num (l : F5) (h : Bnd (2 ^ 63) l) {q : Nat} (hq : q < 5) : (carM l 5 q).toNat = ((l q).toNat + (carC l q).toNat) % 2 ^ 51 := by
  have h1 := (carC_num l h q hq).1
  have h2 := h q hq
  unfold carM
  rw [if_pos hq, mask_toNat, BitVec.toNat_add, Nat.mod_eq_of_lt (show _ + _ < 2 ^ 64 by omega)]
theorem carF_num (l : F5) (h : Bnd (2 ^ 63) l) : ∃ c, (carC l 5).toNat = c ∧ c ≤ 4096 ∧ val (carF l) + c * 2 ^ 255 = val l + 19 * c ∧ (carF l 0).toNat = (l 0).toNat % 2 ^ 51 + 19 * c ∧ (∀ q, 0 < q → q < 5 → (carF l q).toNat < 2 ^ 51) := by
  have c0 : (carC l 0).toNat = 0 := rfl
  have c1 : (carC l 1).toNat = ((l 0).toNat + (carC l 0).toNat) / 2 ^ 51 := (carC_num l h 0 (by omega)).2
  have c2 : (carC l 2).toNat = ((l 1).toNat + (carC l 1).toNat) / 2 ^ 51 := (carC_num l h 1 (by omega)).2
  have c3 : (carC l 3).toNat = ((l 2).toNat + (carC l 2).toNat) / 2 ^ 51 := (carC_num l h 2 (by omega)).2
  have c4 : (carC l 4).toNat = ((l 3).toNat + (carC l 3).toNat) / 2 ^ 51 := (carC_num l h 3 (by omega)).2
  have c5 : (carC l 5).toNat = ((l 4).toNat + (carC l 4).toNat) / 2 ^ 51 := (carC_num l h 4 (by omega)).2
  have m0 := carM_num l h (q := 0) (by omega)
  have m1 := carM_num l h (q := 1) (by omega)
  have m2 := carM_num l h (q := 2) (by omega)
  have m3 := carM_num l h (q := 3) (by omega)
  have m4 := carM_num l h (q := 4) (by omega)
  have b0 := h 0 (by omega)
  have b1 := h 1 (by omega)
  have b2 := h 2 (by omega)
  have b3 := h 3 (by omega)
  have b4 := h 4 (by omega)
  have d4 := (carC_num l h 4 (by omega)).1
  have hc : (carC l 5).toNat ≤ 4096 := by omega
  have e0 : (carF l 0).toNat = (carM l 5 0).toNat + 19 * (carC l 5).toNat := by
    show (upd (carM l 5) 0 (carM l 5 0 + 19#64 * carC l 5) 0).toNat = _
    rw [upd_same, BitVec.toNat_add, BitVec.toNat_mul, show (19#64 : BitVec 64).toNat = 19 by decide, Nat.mod_eq_of_lt (show 19 * (carC l 5).toNat < 2 ^ 64 by omega), Nat.mod_eq_of_lt (by omega)]
  have eq : ∀ q, 0 < q → carF l q = carM l 5 q := fun q hq => upd_ne _ _ _ _ (by omega)
  refine ⟨_, rfl, hc, ?_, ?_, fun q h0 h5 => ?_⟩
  · unfold val
    rw [e0, eq 1 (by omega), eq 2 (by omega), eq 3 (by omega), eq 4 (by omega), m0, m1, m2, m3, m4]
    rw [c0] at m0 c1
    generalize (carC l 1).toNat = k1 at *
    generalize (carC l 2).toNat = k2 at *
    generalize (carC l 3).toNat = k3 at *
    generalize (carC l 4).toNat = k4 at *
    generalize (carC l 5).toNat = k5 at *
    omega
  · rw [e0, m0, c0, Nat.add_zero]
  · rw [eq q h0, carM_num l h h5]; omega
theorem carF_mod (l : F5) (h : Bnd (2 ^ 63) l) : val (carF l) % p255 = val l % p255 := by
  obtain ⟨c, _, _, hv, _⟩ := carF_num l h
  have : val l = val (carF l) + p255 * c := by unfold p255; omega
  rw [this, Nat.add_mul_mod_self_left]
theorem carF_bnd (l : F5) (h : Bnd (2 ^ 63) l) : Bnd (2 ^ 52) (carF l) := fun q hq => by
  obtain ⟨c, _, hc, _, h0, hr⟩ := carF_num l h
  by_cases e : q = 0
  · subst e; rw [h0]; omega
  · have := hr q (by omega) hq; omega
/-- carried twice: just above the prime at most -/
theorem carF2_num (l : F5) (h : Bnd (2 ^ 63) l) : val (carF (carF l)) < 2 ^ 255 + 19 ∧ (carF (carF l) 0).toNat < 2 ^ 51 + 19 ∧ (∀ q, 0 < q → q < 5 → (carF (carF l) q).toNat < 2 ^ 51) := by
  obtain ⟨c, hc0, hc, hv, h0, hr⟩ := carF_num l h
  have hb : Bnd (2 ^ 63) (carF l) := fun q hq => Nat.lt_of_lt_of_le (carF_bnd l h q hq) (by decide)
  obtain ⟨d, hd0, hd, hw, g0, gr⟩ := carF_num (carF l) hb
  have r1 := hr 1 (by omega) (by omega)
  have r2 := hr 2 (by omega) (by omega)
  have r3 := hr 3 (by omega) (by omega)
  have r4 := hr 4 (by omega) (by omega)
  have s1 := gr 1 (by omega) (by omega)
  have s2 := gr 2 (by omega) (by omega)
  have s3 := gr 3 (by omega) (by omega)
  have s4 := gr 4 (by omega) (by omega)
  have hlt : val (carF l) < 2 ^ 255 + 2 ^ 52 := by unfold val; omega
  have hd1 : d ≤ 1 := by omega
  have h00 : (carF (carF l) 0).toNat < 2 ^ 51 + 19 := by
    rw [g0]
    have := Nat.mod_lt (carF l 0).toNat (show 0 < 2 ^ 51 by decide)
    by_cases hz : d = 0
    · omega
    · omega
  refine ⟨?_, ?_, gr⟩
  · unfold val; omega
  · rw [g0]
    have := Nat.mod_lt (carF l 0).toNat (show 0 < 2 ^ 51 by decide)
    omega
end Go.Proofs.YtjblfkmmbpcpaaaDoor
