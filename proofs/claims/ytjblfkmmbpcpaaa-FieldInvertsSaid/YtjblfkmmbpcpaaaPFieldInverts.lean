/-
  PLAIN LAW OF FieldInverts (own work): inverses, and Fermat's theorem.
-/
import Derived.Test.YtjblfkmmbpcpaaaPField9
import Derived.Test.YtjblfkmmbpcpaaaRFieldInverts
namespace Go.Proofs.Ytjblfkmmbpcpaaa
set_option linter.unusedSimpArgs false
set_option linter.unusedVariables false
set_option linter.unusedSectionVars false
open Go Go.LW
set_option maxRecDepth 10000

def priA (n : BitVec 8) (i : Nat) : Nat → BitVec 8 := fun q => if q = 0 then 237#8 - n else if q < i then 255#8 else 0#8
def priF (n : BitVec 8) : Nat → BitVec 8 := upd (priA n 32) 31 127#8
theorem pri_ok (n : BitVec 8) : lethelaw06_prime n (priF n) := by
  refine ⟨priA n 32, ?_, rfl⟩
  have e : upd (fun _ => 0#8) 0 (237#8 - n) = priA n 1 := by
    funext q
    rw [upd_at]
    unfold priA
    by_cases h : q = 0
    · rw [if_pos h, if_pos h]
    · rw [if_neg h, if_neg h, if_neg (by omega)]
  rw [e]
  refine Iter.count (fun i => (i + 1, priA n (i + 1))) 31 (fun i hi => ?_) ?_
  · unfold lethelaw06_prime_l0; dsimp only
    rw [if_pos (by omega)]
    have : upd (priA n (i + 1)) (i + 1) 255#8 = priA n (i + 1 + 1) := by
      funext q
      rw [upd_at]
      unfold priA
      by_cases h : q = i + 1
      · rw [if_pos h, if_neg (by omega), if_pos (by omega)]
      · rw [if_neg h]
        by_cases h0 : q = 0
        · rw [if_pos h0, if_pos h0]
        · rw [if_neg h0, if_neg h0]
          by_cases h1 : q < i + 1
          · rw [if_pos h1, if_pos (by omega)]
          · rw [if_neg h1, if_neg (by omega)]
    rw [this]
  · unfold lethelaw06_prime_l0; dsimp only
    rw [if_neg (by omega)]
theorem pri0 : numB (priF 0#8) 32 = p255 := by decide +kernel
theorem pri1 : numB (priF 1#8) 32 = p255 - 1 := by decide +kernel
theorem fieldInverts_true (x y : Nat → BitVec 8) : lethelaw06_FieldInverts x y true := by
  have ha := rp_read x
  have hb := rp_read y
  obtain ⟨i, pi, qi⟩ := inv_rp ha
  obtain ⟨r1, p1, q1⟩ := pow_rp ha (priF 1#8)
  rw [pri1] at q1
  refine ⟨_, _, ⟨_, read_ok x, _, read_ok y, _, read_ok y, _, read_ok y, _, read_ok y, _, read_ok y, rfl, rfl⟩, _, small_ok _, _, pi, _, eq_ok ha rp_zero, ?_⟩
  by_cases h : ofB x = 0
  · rw [if_pos (by simpa using h)]
    rw [h] at qi q1 ha
    rw [inv_zero] at qi
    refine ⟨_, eq_ok qi rp_zero, ?_⟩
    rw [if_pos (by simp)]
    rw [zero_pow (by decide)] at q1
    refine ⟨_, pri_ok _, _, p1, _, eq_ok q1 rp_zero, ?_⟩
    rw [if_pos (by simp)]
    obtain ⟨r2, p2, q2⟩ := pow_rp ha (fun _ => 0#8)
    rw [numB_zero, fpow_zero] at q2
    exact ⟨_, p2, _, eq_ok q2 rp_one, by simp⟩
  · rw [if_neg (by simpa using h)]
    refine ⟨_, mul_ok _ _, _, eq_ok (rp_mul ha qi) rp_one, ?_⟩
    rw [if_pos (by rw [inv_mul h]; simp)]
    obtain ⟨j, pj, qj⟩ := inv_rp qi
    refine ⟨_, pj, _, eq_ok qj ha, ?_⟩
    rw [if_pos (by rw [inv_inv]; simp)]
    refine ⟨_, pri_ok _, _, p1, _, eq_ok q1 rp_one, ?_⟩
    rw [if_pos (by rw [f_fermat h]; simp)]
    obtain ⟨r2, p2, q2⟩ := pow_rp ha (priF 0#8)
    rw [pri0] at q2
    refine ⟨_, pri_ok _, _, p2, _, eq_ok q2 ha, ?_⟩
    rw [if_pos (by rw [pow_p]; simp)]
    obtain ⟨k, pk, qk⟩ := inv_rp (rp_mul ha hb)
    obtain ⟨l, pl, ql⟩ := inv_rp hb
    exact ⟨_, mul_ok _ _, _, pk, _, pl, _, mul_ok _ _, _, eq_ok qk (rp_mul qi ql), by rw [inv_prod]; simp⟩
end Go.Proofs.Ytjblfkmmbpcpaaa
