/-
  PLAIN (own work), FIELD PART 7: Mul as numbers.
-/
import Derived.Test.YtjblfkmmbpcpaaaDoorPField6
namespace Go.Proofs.YtjblfkmmbpcpaaaDoor
set_option linter.unusedSimpArgs false
set_option linter.unusedVariables false
set_option linter.unusedSectionVars false
open Go Go.LW
set_option maxRecDepth 10000

def cC (m : Nat → BitVec 64) : Nat → BitVec 64
  | 0 => 0#64
  | i + 1 => (((m (i * 2 + 0)) + (BitVec.ofNat 64 (((m (i * 2 + 1)).toNat + (cC m i).toNat + (0#64).toNat) / 2 ^ 64))) <<< 13) ||| (((m (i * 2 + 1)) + (cC m i) + (0#64)) >>> 51)
def outM (m : Nat → BitVec 64) (i : Nat) : F5 := fun q => if q < i then (((m (q * 2 + 1)) + (cC m q) + (0#64)) &&& (2251799813685247#64)) else 0#64
theorem outM_succ (m : Nat → BitVec 64) (i : Nat) : upd (outM m i) i (((m (i * 2 + 1)) + (cC m i) + (0#64)) &&& (2251799813685247#64)) = outM m (i + 1) := by
  funext q
  rw [upd_at]
  unfold outM
  by_cases h : q = i
  · subst h; rw [if_pos rfl, if_pos (by omega)]
  · rw [if_neg h]
    by_cases h2 : q < i
    · rw [if_pos h2, if_pos (by omega)]
    · rw [if_neg h2, if_neg (by omega)]
def preM (a b : F5) : F5 := upd (outM (accA a b 5) 5) 0 (outM (accA a b 5) 5 0 + 19#64 * cC (accA a b 5) 5)
def mulF (a b : F5) : F5 := carF (preM a b)
theorem outM_zero (m : Nat → BitVec 64) : outM m 0 = fun _ => 0#64 := by
  funext q; unfold outM; rw [if_neg (by omega)]
theorem mul_ok (a b : F5) : field_Elem_Mul a b (mulF a b) := by
  refine ⟨_, acc_ok a b, cC (accA a b 5) 5, outM (accA a b 5) 5, ?_, _, car_ok _, rfl⟩
  have h := Iter.count (step := field_Elem_Mul_l2 (accA a b 5)) (x := (cC (accA a b 5) 5, outM (accA a b 5) 5)) (fun i => (cC (accA a b 5) i, i, outM (accA a b 5) i)) 5 (fun i hi => by
    unfold field_Elem_Mul_l2; dsimp only
    rw [if_pos hi, outM_succ]; rfl) (by
    unfold field_Elem_Mul_l2; dsimp only
    rw [if_neg (by omega)])
  rw [outM_zero] at h
  exact h
theorem sq_ok (a : F5) : field_Elem_Square a (mulF a a) := ⟨_, mul_ok a a, rfl⟩

/-! ### one carry -/
theorem lt64 {y : Nat} (h : y < 2 ^ 51) : y * 2 ^ 13 < 2 ^ 64 := by omega
theorem cry_num {hi lo c : BitVec 64} (hS : hi.toNat * 2 ^ 64 + lo.toNat + c.toNat < 2 ^ 115) :
    (((hi + (BitVec.ofNat 64 ((lo.toNat + c.toNat + (0#64 : BitVec 64).toNat) / 2 ^ 64))) <<< 13) ||| ((lo + c + 0#64) >>> 51)).toNat = (hi.toNat * 2 ^ 64 + lo.toNat + c.toNat) / 2 ^ 51 ∧
    ((lo + c + 0#64) &&& 2251799813685247#64).toNat = (hi.toNat * 2 ^ 64 + lo.toNat + c.toNat) % 2 ^ 51 := by
  have e0 : (0#64 : BitVec 64).toNat = 0 := BitVec.toNat_ofNat 0 64
  have h1 := lo.isLt
  have h2 := c.isLt
  have h3 := hi.isLt
  have h5 : (lo + c + 0#64).toNat = (lo.toNat + c.toNat) % 2 ^ 64 := by rw [BitVec.add_zero, BitVec.toNat_add]
  have h6 : (BitVec.ofNat 64 ((lo.toNat + c.toNat + (0#64 : BitVec 64).toNat) / 2 ^ 64)).toNat = (lo.toNat + c.toNat) / 2 ^ 64 := by
    rw [BitVec.toNat_ofNat, e0, Nat.add_zero, Nat.mod_eq_of_lt]; omega
  have h7 : (hi + BitVec.ofNat 64 ((lo.toNat + c.toNat + (0#64 : BitVec 64).toNat) / 2 ^ 64)).toNat = hi.toNat + (lo.toNat + c.toNat) / 2 ^ 64 := by
    rw [addT (by rw [h6]; omega), h6]
  refine ⟨?_, ?_⟩
  · rw [BitVec.toNat_or, BitVec.toNat_shiftLeft, shr_toNat, h5, h7, Nat.shiftLeft_eq]
    have hh : hi.toNat + (lo.toNat + c.toNat) / 2 ^ 64 < 2 ^ 51 := by omega
    have hh2 : (hi.toNat + (lo.toNat + c.toNat) / 2 ^ 64) * 2 ^ 13 < 2 ^ 64 := by
      exact lt64 hh
    rw [Nat.mod_eq_of_lt hh2]
    have hr : (lo.toNat + c.toNat) % 2 ^ 64 / 2 ^ 51 < 2 ^ 13 := by omega
    rw [Nat.mul_comm, ← Nat.two_pow_add_eq_or_of_lt hr]
    omega
  · rw [mask_toNat, h5]; omega

/-! ### the sums in numbers -/
section sums
variable {a b : F5}
theorem acc0 : accN a b 5 0 = (a 0).toNat * (b 0).toNat + (a 1).toNat * ((b 4).toNat * 19) + (a 2).toNat * ((b 3).toNat * 19) + (a 3).toNat * ((b 2).toNat * 19) + (a 4).toNat * ((b 1).toNat * 19) := by simp [accN, rowN, yN]
theorem acc1 : accN a b 5 1 = (a 0).toNat * (b 1).toNat + (a 1).toNat * (b 0).toNat + (a 2).toNat * ((b 4).toNat * 19) + (a 3).toNat * ((b 3).toNat * 19) + (a 4).toNat * ((b 2).toNat * 19) := by simp [accN, rowN, yN]
theorem acc2 : accN a b 5 2 = (a 0).toNat * (b 2).toNat + (a 1).toNat * (b 1).toNat + (a 2).toNat * (b 0).toNat + (a 3).toNat * ((b 4).toNat * 19) + (a 4).toNat * ((b 3).toNat * 19) := by simp [accN, rowN, yN]
theorem acc3 : accN a b 5 3 = (a 0).toNat * (b 3).toNat + (a 1).toNat * (b 2).toNat + (a 2).toNat * (b 1).toNat + (a 3).toNat * (b 0).toNat + (a 4).toNat * ((b 4).toNat * 19) := by simp [accN, rowN, yN]
theorem acc4 : accN a b 5 4 = (a 0).toNat * (b 4).toNat + (a 1).toNat * (b 3).toNat + (a 2).toNat * (b 2).toNat + (a 3).toNat * (b 1).toNat + (a 4).toNat * (b 0).toNat := by simp [accN, rowN, yN]
end sums
theorem valprod (a0 a1 a2 a3 a4 b0 b1 b2 b3 b4 X : Nat) : (a0 + a1 * X + a2 * X^2 + a3 * X^3 + a4*X^4) * (b0 + b1 * X + b2 * X^2 + b3 * X^3 + b4*X^4) + 19 * ((a1*b4+a2*b3+a3*b2+a4*b1) + (a2*b4+a3*b3+a4*b2)*X + (a3*b4+a4*b3)*X^2+a4*b4*X^3) =
  (a0 * b0 + a1 * (b4 * 19) + a2 * (b3 * 19) + a3 * (b2 * 19) + a4 * (b1 * 19)) + (a0 * b1 + a1 * b0 + a2 * (b4 * 19) + a3 * (b3 * 19) + a4 * (b2 * 19)) * X + (a0 * b2 + a1 * b1 + a2 * b0 + a3 * (b4 * 19) + a4 * (b3 * 19)) * X^2 + (a0 * b3 + a1 * b2 + a2 * b1 + a3 * b0 + a4 * (b4 * 19)) * X^3 + (a0 * b4 + a1 * b3 + a2 * b2 + a3 * b1 + a4 * b0) * X^4
   + X^5 * ((a1*b4+a2*b3+a3*b2+a4*b1) + (a2*b4+a3*b3+a4*b2)*X + (a3*b4+a4*b3)*X^2+a4*b4*X^3) := by grind
theorem sum_mod (a b : F5) : (accN a b 5 0 + accN a b 5 1 * 2 ^ 51 + accN a b 5 2 * 2 ^ 102 + accN a b 5 3 * 2 ^ 153 + accN a b 5 4 * 2 ^ 204) % p255 = val a * val b % p255 := by
  have h := valprod (a 0).toNat (a 1).toNat (a 2).toNat (a 3).toNat (a 4).toNat (b 0).toNat (b 1).toNat (b 2).toNat (b 3).toNat (b 4).toNat (2 ^ 51)
  rw [← acc0, ← acc1, ← acc2, ← acc3, ← acc4] at h
  rw [show ((2 : Nat) ^ 51) ^ 2 = 2 ^ 102 by decide +kernel, show ((2 : Nat) ^ 51) ^ 3 = 2 ^ 153 by decide +kernel, show ((2 : Nat) ^ 51) ^ 4 = 2 ^ 204 by decide +kernel, show ((2 : Nat) ^ 51) ^ 5 = p255 + 19 by decide +kernel] at h
  have hv : val a * val b = ((a 0).toNat + (a 1).toNat * 2 ^ 51 + (a 2).toNat * 2 ^ 102 + (a 3).toNat * 2 ^ 153 + (a 4).toNat * 2 ^ 204) * ((b 0).toNat + (b 1).toNat * 2 ^ 51 + (b 2).toNat * 2 ^ 102 + (b 3).toNat * 2 ^ 153 + (b 4).toNat * 2 ^ 204) := rfl
  rw [← hv] at h
  generalize val a * val b = v at h ⊢
  generalize ((a 1).toNat * (b 4).toNat + (a 2).toNat * (b 3).toNat + (a 3).toNat * (b 2).toNat + (a 4).toNat * (b 1).toNat + ((a 2).toNat * (b 4).toNat + (a 3).toNat * (b 3).toNat + (a 4).toNat * (b 2).toNat) * 2 ^ 51 + ((a 3).toNat * (b 4).toNat + (a 4).toNat * (b 3).toNat) * 2 ^ 102 + (a 4).toNat * (b 4).toNat * 2 ^ 153) = H at h
  rw [Nat.add_mul] at h
  have h2 : v = accN a b 5 0 + accN a b 5 1 * 2 ^ 51 + accN a b 5 2 * 2 ^ 102 + accN a b 5 3 * 2 ^ 153 + accN a b 5 4 * 2 ^ 204 + p255 * H := by omega
  rw [h2, Nat.add_mul_mod_self_left]
def Tt : Nat := 2 ^ 51 + 2 ^ 17
theorem tt_le : Tt ≤ 2 ^ 52 := by decide
theorem Bnd.mono {M N : Nat} {l : F5} (h : Bnd M l) (hMN : M ≤ N) : Bnd N l := fun q hq => Nat.lt_of_lt_of_le (h q hq) hMN
theorem carF_bt (l : F5) (h : Bnd (2 ^ 63) l) : Bnd Tt (carF l) := fun q hq => by
  obtain ⟨c, _, hc, _, h0, hr⟩ := carF_num l h
  show _ < 2 ^ 51 + 2 ^ 17
  by_cases e : q = 0
  · subst e; rw [h0]; omega
  · have := hr q (by omega) hq; omega
theorem mul_num {a b : F5} (ha : Bnd (2 ^ 52) a) (hb : Bnd (2 ^ 52) b) : val (mulF a b) % p255 = val a * val b % p255 ∧ Bnd Tt (mulF a b) := by
  have hS := fun k hk => acc_num ha hb 5 (Nat.le_refl _) k hk
  have hs := sum_mod a b
  have b4 : accN a b 5 4 ≤ 5 * (2 ^ 52 * 2 ^ 52) := by
    rw [acc4]
    have q : ∀ i j, i < 5 → j < 5 → (a i).toNat * (b j).toNat ≤ 2 ^ 52 * 2 ^ 52 := fun i j hi hj => Nat.mul_le_mul (by have := ha i hi; omega) (by have := hb j hj; omega)
    have q0 := q 0 4 (by omega) (by omega)
    have q1 := q 1 3 (by omega) (by omega)
    have q2 := q 2 2 (by omega) (by omega)
    have q3 := q 3 1 (by omega) (by omega)
    have q4 := q 4 0 (by omega) (by omega)
    omega
  generalize accN a b 5 = S at hS hs b4
  have key : ∀ i, i < 5 → (cC (accA a b 5) (i + 1)).toNat = (S i + (cC (accA a b 5) i).toNat) / 2 ^ 51 ∧ (outM (accA a b 5) 5 i).toNat = (S i + (cC (accA a b 5) i).toNat) % 2 ^ 51 := fun i hi => by
    obtain ⟨h1, h2⟩ := hS i hi
    have hc := (cC (accA a b 5) i).isLt
    have h1' : (accA a b 5 (i * 2)).toNat * 2 ^ 64 + (accA a b 5 (i * 2 + 1)).toNat = S i := h1
    have := cry_num (hi := accA a b 5 (i * 2)) (lo := accA a b 5 (i * 2 + 1)) (c := cC (accA a b 5) i) (by omega)
    rw [h1'] at this
    refine ⟨this.1, ?_⟩
    unfold outM
    rw [if_pos hi]
    exact this.2
  have k0 := key 0 (by omega)
  have k1 := key 1 (by omega)
  have k2 := key 2 (by omega)
  have k3 := key 3 (by omega)
  have k4 := key 4 (by omega)
  have z : (cC (accA a b 5) 0).toNat = 0 := BitVec.toNat_ofNat 0 64
  have hS3 := (hS 3 (by omega)).2
  have hc4 := (cC (accA a b 5) 4).isLt
  have c5 : (cC (accA a b 5) 5).toNat < 2 ^ 58 := by rw [k4.1]; omega
  have e0 : (preM a b 0).toNat = (outM (accA a b 5) 5 0).toNat + 19 * (cC (accA a b 5) 5).toNat := by
    show (upd (outM (accA a b 5) 5) 0 (outM (accA a b 5) 5 0 + 19#64 * cC (accA a b 5) 5) 0).toNat = _
    have hm : (19#64 * cC (accA a b 5) 5).toNat = 19 * (cC (accA a b 5) 5).toNat := by
      rw [mulT (by rw [show (19#64 : BitVec 64).toNat = 19 by decide]; omega), show (19#64 : BitVec 64).toNat = 19 by decide]
    rw [upd_same, addT (by rw [hm, k0.2]; omega), hm]
  have eq : ∀ q, 0 < q → preM a b q = outM (accA a b 5) 5 q := fun q hq => upd_ne _ _ _ _ (by omega)
  have hbd : Bnd (2 ^ 63) (preM a b) := fun q hq => by
    by_cases e : q = 0
    · subst e; rw [e0, k0.2]; omega
    · rw [eq q (by omega), (key q hq).2]; omega
  have hval : val (preM a b) % p255 = val a * val b % p255 := by
    rw [← hs]
    have hP : p255 = 57896044618658097711785492504343953926634992332820282019728792003956564819949 := by decide
    have : val (preM a b) + p255 * (cC (accA a b 5) 5).toNat = S 0 + S 1 * 2 ^ 51 + S 2 * 2 ^ 102 + S 3 * 2 ^ 153 + S 4 * 2 ^ 204 := by
      unfold val
      rw [e0, eq 1 (by omega), eq 2 (by omega), eq 3 (by omega), eq 4 (by omega), k0.2, k1.2, k2.2, k3.2, k4.2, hP]
      rw [z] at k0
      rw [z]
      obtain ⟨j0, -⟩ := k0
      obtain ⟨j1, -⟩ := k1
      obtain ⟨j2, -⟩ := k2
      obtain ⟨j3, -⟩ := k3
      obtain ⟨j4, -⟩ := k4
      clear hs hS key eq hbd e0 b4 hS3 hc4 c5
      generalize (cC (accA a b 5) (0 + 1)).toNat = x1 at *
      generalize (cC (accA a b 5) (1 + 1)).toNat = x2 at *
      generalize (cC (accA a b 5) (2 + 1)).toNat = x3 at *
      generalize (cC (accA a b 5) (3 + 1)).toNat = x4 at *
      generalize (cC (accA a b 5) (4 + 1)).toNat = x5 at *
      generalize S 0 = s0 at *
      generalize S 1 = s1 at *
      generalize S 2 = s2 at *
      generalize S 3 = s3 at *
      generalize S 4 = s4 at *
      omega
    rw [← this, Nat.add_mul_mod_self_left]
  exact ⟨by rw [← hval]; exact carF_mod _ hbd, carF_bt _ hbd⟩
end Go.Proofs.YtjblfkmmbpcpaaaDoor
