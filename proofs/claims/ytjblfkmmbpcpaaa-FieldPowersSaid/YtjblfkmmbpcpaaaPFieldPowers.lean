/-
  PLAIN LAW OF FieldPowers (own work): powers by products one by one; of products; all 256 bits count.
-/
import Derived.Test.YtjblfkmmbpcpaaaPField9
import Derived.Test.YtjblfkmmbpcpaaaRFieldPowers
namespace Go.Proofs.Ytjblfkmmbpcpaaa
set_option linter.unusedSimpArgs false
set_option linter.unusedVariables false
set_option linter.unusedSectionVars false
open Go Go.LW
set_option maxRecDepth 10000

def wantF (a : F5) : Nat → F5
  | 0 => smallF 1#32
  | i + 1 => mulF (wantF a i) a
theorem rp_want {a : F5} {x : Fp} (ha : Rp a x) : ∀ i, Rp (wantF a i) (x ^ i)
  | 0 => by rw [fpow_zero]; exact rp_one
  | i + 1 => by
    have := rp_mul (rp_want ha i) ha
    rw [fpow_add x i 1]
    have e : x ^ i * x ^ 1 = x ^ i * x := by grind
    rw [e]; exact this
theorem and127 : ∀ x : BitVec 8, (x &&& 127#8).toNat = x.toNat % 128 := by decide +kernel
theorem low_num (k : Nat → BitVec 8) : numB (upd k 31 (k 31 &&& 127#8)) 32 = numB k 32 % 2 ^ 255 ∧ (127 < (k 31).toNat → numB k 32 = numB k 32 % 2 ^ 255 + 2 ^ 255) ∧ (¬ 127 < (k 31).toNat → numB k 32 = numB k 32 % 2 ^ 255) := by
  have hN : numB k 32 = numB k 31 + (k 31).toNat * 256 ^ 31 := rfl
  have hlow := numB_congr' (b := upd k 31 (k 31 &&& 127#8)) (b' := k) 31 (fun q hq => upd_ne _ _ _ _ (by omega))
  have hN' : numB (upd k 31 (k 31 &&& 127#8)) 32 = numB k 31 + (k 31 &&& 127#8).toNat * 256 ^ 31 := by
    show numB (upd k 31 (k 31 &&& 127#8)) 31 + (upd k 31 (k 31 &&& 127#8) 31).toNat * 256 ^ 31 = _
    rw [hlow, upd_same]
  have hlt := numB_lt k 31
  have hk := (k 31).isLt
  rw [and127] at hN'
  rw [hN, hN']
  generalize numB k 31 = a at hlt ⊢
  generalize (k 31).toNat = y at hk ⊢
  refine ⟨by omega, fun h => by omega, fun h => by omega⟩
theorem fieldPowers_true (x y : Nat → BitVec 8) (n : BitVec 8) (k : Nat → BitVec 8) : lethelaw06_FieldPowers x y n k true := by
  have ha := rp_read x
  have hb := rp_read y
  refine ⟨_, _, ⟨_, read_ok x, _, read_ok y, _, read_ok y, _, read_ok y, _, read_ok y, _, read_ok y, rfl, rfl⟩, _, small_ok _, wantF (readF x) n.toNat, ?_, ?_⟩
  · refine Iter.count (fun i => (i, wantF (readF x) i)) n.toNat (fun i hi => ?_) ?_
    · unfold lethelaw06_FieldPowers_l0; dsimp only
      rw [if_pos hi]
      exact ⟨_, mul_ok _ _, rfl⟩
    · unfold lethelaw06_FieldPowers_l0; dsimp only
      rw [if_neg (by omega)]
  · obtain ⟨r1, p1, q1⟩ := pow_rp ha (upd (fun _ => 0#8) 0 n)
    rw [numB_single] at q1
    refine ⟨_, p1, _, eq_ok q1 (rp_want ha _), ?_⟩
    rw [if_pos (by simp)]
    obtain ⟨r2, p2, q2⟩ := pow_rp (rp_mul ha hb) k
    obtain ⟨r3, p3, q3⟩ := pow_rp ha k
    obtain ⟨r4, p4, q4⟩ := pow_rp hb k
    refine ⟨_, mul_ok _ _, _, p2, _, p3, _, p4, _, mul_ok _ _, _, eq_ok q2 (rp_mul q3 q4), ?_⟩
    rw [if_pos (by rw [fmul_pow]; simp)]
    obtain ⟨l1, l2, l3⟩ := low_num k
    obtain ⟨r5, p5, q5⟩ := pow_rp ha (upd k 31 (k 31 &&& 127#8))
    rw [l1] at q5
    have e127 : (127#8 : BitVec 8).toNat = 127 := by decide
    by_cases h : 127 < (k 31).toNat
    · obtain ⟨r6, p6, q6⟩ := pow_rp ha (upd (fun _ => 0#8) 0 20#8)
      rw [numB_single] at q6
      refine ⟨_, p5, _, ?_, _, p3, _, eq_ok q3 (rp_mul q5 q6), ?_⟩
      · rw [e127, if_pos h]
        exact ⟨_, p6, _, mul_ok _ _, rfl⟩
      · have e2 := l2 h
        have : ofB x ^ numB k 32 = ofB x ^ (numB k 32 % 2 ^ 255) * ofB x ^ (20#8 : BitVec 8).toNat := by
          rw [show (20#8 : BitVec 8).toNat = 20 by decide, ← pow_top, ← fpow_add, ← e2]
        rw [this]; simp
    · refine ⟨_, p5, _, ?_, _, p3, _, eq_ok q3 q5, ?_⟩
      · rw [e127, if_neg h]
      · rw [← l3 h]; simp
end Go.Proofs.Ytjblfkmmbpcpaaa
