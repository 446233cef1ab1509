/-
  PLAIN (own work), FIELD PART 6: the 25 products, summed; Mul.
-/
import Derived.Test.YtjblfkmmbpcpaaaDoorPField5
namespace Go.Proofs.YtjblfkmmbpcpaaaDoor
set_option linter.unusedSimpArgs false
set_option linter.unusedVariables false
set_option linter.unusedSectionVars false
open Go Go.LW
set_option maxRecDepth 10000

def cry (xlo l : BitVec 64) : BitVec 64 := BitVec.ofNat 64 ((xlo.toNat + l.toNat + (0#64).toNat) / 2 ^ 64)
def lpH (xhi xlo a b : BitVec 64) : BitVec 64 := xhi + mhi a b + cry xlo (a * b)
def lpL (xlo a b : BitVec 64) : BitVec 64 := xlo + a * b + 0#64
theorem plus_ok (xhi xlo a b : BitVec 64) : field_long_plus xhi xlo a b (lpH xhi xlo a b, lpL xlo a b) := by
  refine ⟨_, _, mul64_ok a b, ?_, rfl⟩
  have h1 := xlo.isLt
  have h2 := (a * b).isLt
  rw [BitVec.toNat_ofNat, show (0#64 : BitVec 64).toNat = 0 by decide]
  omega
theorem plus_lin (M A B C D P q r : Nat) (hm : C * M + D = P) (e : M * q + r = B + D) : (A + C + q) * M + r = A * M + B + P := by
  rw [Nat.add_mul, Nat.add_mul, ← hm]
  rw [Nat.mul_comm] at e
  generalize A * M = a
  generalize C * M = c
  generalize q * M = d at *
  omega
theorem plus_num {xhi xlo a b : BitVec 64} (h : xhi.toNat * 2 ^ 64 + xlo.toNat + a.toNat * b.toNat < 2 ^ 128) :
    (lpH xhi xlo a b).toNat * 2 ^ 64 + (lpL xlo a b).toNat = xhi.toNat * 2 ^ 64 + xlo.toNat + a.toNat * b.toNat := by
  have hm := mhi_num a b
  have h1 := xlo.isLt
  have h2 := (a * b).isLt
  unfold lpH lpL cry
  generalize a * b = l at *
  generalize mhi a b = hh at *
  have e0 : (0#64 : BitVec 64).toNat = 0 := BitVec.toNat_ofNat 0 64
  have h4 := hh.isLt
  have h3 := xhi.isLt
  have h5 : (xlo + l + 0#64).toNat = (xlo.toNat + l.toNat) % 2 ^ 64 := by rw [BitVec.add_zero, BitVec.toNat_add]
  have h6 : (BitVec.ofNat 64 ((xlo.toNat + l.toNat + (0#64 : BitVec 64).toNat) / 2 ^ 64)).toNat = (xlo.toNat + l.toNat) / 2 ^ 64 := by
    rw [BitVec.toNat_ofNat, e0, Nat.add_zero, Nat.mod_eq_of_lt]
    omega
  have h7 : (xhi + hh + BitVec.ofNat 64 ((xlo.toNat + l.toNat + (0#64 : BitVec 64).toNat) / 2 ^ 64)).toNat = xhi.toNat + hh.toNat + (xlo.toNat + l.toNat) / 2 ^ 64 := by
    have g1 : (xhi + hh).toNat = xhi.toNat + hh.toNat := addT (by omega)
    rw [addT (by rw [g1, h6]; omega), g1, h6]
  rw [h5, h7]
  exact plus_lin (2 ^ 64) _ _ _ _ _ _ _ hm (Nat.div_add_mod _ _)

/-! ### the sums -/
def SV (m : Nat → BitVec 64) (k : Nat) : Nat := (m (k * 2)).toNat * 2 ^ 64 + (m (k * 2 + 1)).toNat
def yv (b : F5) (i j : Nat) : BitVec 64 := if 5 ≤ i + j then b j * 19#64 else b j
def rowA (a b : F5) (i : Nat) (m : Nat → BitVec 64) : Nat → (Nat → BitVec 64)
  | 0 => m
  | j + 1 => spl (rowA a b i m j) (((i + j) % 5) * 2) 2 (lit [lpH (rowA a b i m j (((i + j) % 5) * 2 + 0)) (rowA a b i m j (((i + j) % 5) * 2 + 1)) (a i) (yv b i j), lpL (rowA a b i m j (((i + j) % 5) * 2 + 1)) (a i) (yv b i j)])
def accA (a b : F5) : Nat → (Nat → BitVec 64)
  | 0 => fun _ => 0#64
  | i + 1 => rowA a b i (accA a b i) 5
theorem acc_ok (a b : F5) : Iter (field_Elem_Mul_l0 a b) (0, fun _ => 0#64) (accA a b 5) := by
  refine Iter.count (fun i => (i, accA a b i)) 5 (fun i hi => ?_) ?_
  · unfold field_Elem_Mul_l0; dsimp only
    rw [if_pos hi]
    refine ⟨rowA a b i (accA a b i) 5, ?_, rfl⟩
    refine Iter.count (fun j => (j, rowA a b i (accA a b i) j)) 5 (fun j hj => ?_) ?_
    · unfold field_Elem_Mul_l1; dsimp only
      rw [if_pos hj]
      refine ⟨yv b i j, ?_, _, _, plus_ok _ _ _ _, rfl⟩
      unfold yv
      by_cases h : 5 ≤ i + j
      · rw [if_pos h, if_pos h]
      · rw [if_neg h, if_neg h]
    · unfold field_Elem_Mul_l1; dsimp only
      rw [if_neg (by omega)]
  · unfold field_Elem_Mul_l0; dsimp only
    rw [if_neg (by omega)]
theorem SV_spl (m : Nat → BitVec 64) (k0 : Nat) (h l : BitVec 64) (k : Nat) : SV (spl m (k0 * 2) 2 (lit [h, l])) k = if k = k0 then h.toNat * 2 ^ 64 + l.toNat else SV m k := by
  unfold SV
  by_cases hk : k = k0
  · subst hk
    rw [if_pos rfl, spl_in _ _ _ _ _ (by omega), spl_in _ _ _ _ _ (by omega), Nat.sub_self, show k * 2 + 1 - k * 2 = 1 by omega]
    rfl
  · rw [if_neg hk, spl_out _ _ _ _ _ (by omega), spl_out _ _ _ _ _ (by omega)]
def yN (b : F5) (i j : Nat) : Nat := if 5 ≤ i + j then (b j).toNat * 19 else (b j).toNat
theorem yv_num {b : F5} (h : Bnd (2 ^ 52) b) {i j : Nat} (hj : j < 5) : (yv b i j).toNat = yN b i j ∧ yN b i j < 19 * 2 ^ 52 := by
  have hb := h j hj
  unfold yv yN
  by_cases e : 5 ≤ i + j
  · rw [if_pos e, if_pos e, BitVec.toNat_mul, show (19#64 : BitVec 64).toNat = 19 by decide]; omega
  · rw [if_neg e, if_neg e]; omega
def rowN (a b : F5) (i : Nat) (f : Nat → Nat) : Nat → (Nat → Nat)
  | 0 => f
  | j + 1 => fun k => if k = (i + j) % 5 then rowN a b i f j k + (a i).toNat * yN b i j else rowN a b i f j k
def accN (a b : F5) : Nat → (Nat → Nat)
  | 0 => fun _ => 0
  | i + 1 => rowN a b i (accN a b i) 5
theorem row_num {a b : F5} (ha : Bnd (2 ^ 52) a) (hb : Bnd (2 ^ 52) b) {i : Nat} (hi : i < 5) {m : Nat → BitVec 64} {f : Nat → Nat} (hm : ∀ k, k < 5 → SV m k = f k) (hf : ∀ k, k < 5 → f k ≤ i * 5 * (2 ^ 52 * (19 * 2 ^ 52))) :
    ∀ j, j ≤ 5 → ∀ k, k < 5 → SV (rowA a b i m j) k = rowN a b i f j k ∧ rowN a b i f j k ≤ (i * 5 + j) * (2 ^ 52 * (19 * 2 ^ 52))
  | 0, _, k, hk => ⟨hm k hk, by have := hf k hk; simpa [rowN] using this⟩
  | j + 1, hj, k, hk => by
    obtain ⟨h1, h2⟩ := row_num ha hb hi hm hf j (by omega) k hk
    obtain ⟨y1, y2⟩ := yv_num hb (i := i) (j := j) (by omega)
    have hai := ha i hi
    have hp : (a i).toNat * yN b i j ≤ 2 ^ 52 * (19 * 2 ^ 52) := Nat.mul_le_mul (by omega) (by omega)
    have hij : (i * 5 + j) * (2 ^ 52 * (19 * 2 ^ 52)) ≤ 24 * (2 ^ 52 * (19 * 2 ^ 52)) := Nat.mul_le_mul_right _ (by omega)
    show SV (spl (rowA a b i m j) (((i + j) % 5) * 2) 2 (lit [_, _])) k = (if k = (i + j) % 5 then rowN a b i f j k + (a i).toNat * yN b i j else rowN a b i f j k) ∧ (if k = (i + j) % 5 then rowN a b i f j k + (a i).toNat * yN b i j else rowN a b i f j k) ≤ _
    rw [SV_spl]
    have hs : (i * 5 + (j + 1)) * (2 ^ 52 * (19 * 2 ^ 52)) = (i * 5 + j) * (2 ^ 52 * (19 * 2 ^ 52)) + 2 ^ 52 * (19 * 2 ^ 52) := by rw [← Nat.add_assoc, Nat.add_mul, Nat.one_mul]
    by_cases e : k = (i + j) % 5
    · rw [if_pos e, if_pos e, ← e, hs]
      have h1' : (rowA a b i m j (k * 2)).toNat * 2 ^ 64 + (rowA a b i m j (k * 2 + 1)).toNat = rowN a b i f j k := h1
      have := plus_num (xhi := rowA a b i m j (k * 2 + 0)) (xlo := rowA a b i m j (k * 2 + 1)) (a := a i) (b := yv b i j) (by
        rw [y1]; show (rowA a b i m j (k * 2)).toNat * 2 ^ 64 + (rowA a b i m j (k * 2 + 1)).toNat + _ < _; omega)
      rw [this, y1]
      refine ⟨by show (rowA a b i m j (k * 2)).toNat * 2 ^ 64 + (rowA a b i m j (k * 2 + 1)).toNat + _ = _; rw [h1'], by omega⟩
    · rw [if_neg e, if_neg e, hs]
      exact ⟨h1, Nat.le_trans h2 (Nat.le_add_right _ _)⟩
theorem acc_num {a b : F5} (ha : Bnd (2 ^ 52) a) (hb : Bnd (2 ^ 52) b) : ∀ i, i ≤ 5 → ∀ k, k < 5 → SV (accA a b i) k = accN a b i k ∧ accN a b i k ≤ i * 5 * (2 ^ 52 * (19 * 2 ^ 52))
  | 0, _, k, _ => ⟨by show (0#64 : BitVec 64).toNat * 2 ^ 64 + (0#64 : BitVec 64).toNat = 0; rw [BitVec.toNat_ofNat 0 64], by simp [accN]⟩
  | i + 1, hi, k, hk => by
    have ih := acc_num ha hb i (by omega)
    have := row_num ha hb (i := i) (by omega) (fun k hk => (ih k hk).1) (fun k hk => (ih k hk).2) 5 (by omega) k hk
    rw [show i * 5 + 5 = (i + 1) * 5 by omega] at this
    exact this
end Go.Proofs.YtjblfkmmbpcpaaaDoor
