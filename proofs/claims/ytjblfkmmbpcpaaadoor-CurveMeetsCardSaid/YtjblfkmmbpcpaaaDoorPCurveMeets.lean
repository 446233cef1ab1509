/-
  PLAIN LAW OF CurveMeets (own work): two numbers in either order; the answer is below the prime.
-/
import Derived.Test.YtjblfkmmbpcpaaaDoorPCurve4
import Derived.Test.YtjblfkmmbpcpaaaDoorPFixed
import Derived.Test.YtjblfkmmbpcpaaaDoorRCurveMeets
namespace Go.Proofs.YtjblfkmmbpcpaaaDoor
set_option linter.unusedSimpArgs false
set_option linter.unusedVariables false
set_option linter.unusedSectionVars false
open Go Go.LW
set_option maxRecDepth 10000

def fullB (i : Nat) : BitVec 8 := if i = 31 then 127#8 else 255#8
theorem reduced_ok {k : Nat → BitVec 8} (h : numB k 32 < p255) : lethelaw07_reduced k true := by
  have e128 : (128#8 : BitVec 8).toNat = 128 := by decide
  have e237 : (237#8 : BitVec 8).toNat = 237 := by decide
  have hN : numB k 32 = numB k 31 + (k 31).toNat * 256 ^ 31 := rfl
  have hp := p_lt'
  unfold lethelaw07_reduced
  have h31 : (k 31).toNat < 128 := by
    rw [hN] at h
    generalize numB k 31 = a at *
    generalize (k 31).toNat = b at *
    omega
  rw [if_neg (by rw [e128]; omega)]
  have key : ∀ i, i ≤ 31 → (∀ q, i < q → q ≤ 31 → k q = fullB q) → ∃ x, Iter (lethelaw07_reduced_l0 k true) (i : Int) x ∧ (x = some () → true = decide ((k 0).toNat < (237#8 : BitVec 8).toNat)) := by
    intro i
    induction i with
    | zero =>
      intro _ hq
      refine ⟨some (), .done ?_, fun _ => ?_⟩
      · unfold lethelaw07_reduced_l0
        rw [if_neg (by omega)]
      · rw [e237]
        symm
        rw [decide_eq_true_iff]
        have h1 := numB_split k 1 31
        have h2 : numB (fun q => k (1 + q)) 31 = numB (fun q => if q = 30 then 127#8 else 255#8) 31 := numB_congr' 31 fun q hq31 => by
          show k (1 + q) = _
          rw [hq (1 + q) (by omega) (by omega)]
          unfold fullB
          by_cases e : q = 30
          · rw [if_pos (by omega), if_pos e]
          · rw [if_neg (by omega), if_neg e]
        have h3 : 256 * numB (fun q => if q = 30 then 127#8 else 255#8) 31 + 237 = p255 := by decide +kernel
        have h4 : numB k 1 = (k 0).toNat := by simp [numB]
        rw [show 1 + 31 = 32 by decide, h2, h4, Nat.pow_one] at h1
        omega
    | succ i ih =>
      intro hi hq
      have hf : (if ((i + 1 : Nat) : Int) = 31 then (fullB (i + 1) = 127#8) else (fullB (i + 1) = 255#8)) := by
        unfold fullB
        by_cases e : i + 1 = 31
        · rw [if_pos (by omega), if_pos e]
        · rw [if_neg (by omega), if_neg e]
      by_cases hk : k (i + 1) = fullB (i + 1)
      · obtain ⟨x, h1, h2⟩ := ih (by omega) (fun q h1 h2 => by
          by_cases e : q = i + 1
          · rw [e]; exact hk
          · exact hq q (by omega) h2)
        refine ⟨x, .more ?_ h1, h2⟩
        unfold lethelaw07_reduced_l0
        rw [if_pos (by omega)]
        refine ⟨_, hf, by omega, ?_⟩
        rw [Int.toNat_natCast, if_neg (fun h => h hk)]
        exact ⟨by omega, congrArg Sum.inl (by omega)⟩
      · refine ⟨none, .done ?_, fun h => by cases h⟩
        unfold lethelaw07_reduced_l0
        rw [if_pos (by omega)]
        refine ⟨_, hf, by omega, ?_⟩
        rw [Int.toNat_natCast, if_pos hk]
        exact ⟨rfl, rfl⟩
  exact key 31 (by omega) (fun q h1 h2 => by omega)
theorem curveMeets_true (a b u : Nat → BitVec 8) : lethelaw07_CurveMeets a b u true := by
  obtain ⟨r1, t1, n1⟩ := times_rp b u
  obtain ⟨r2, t2, n2⟩ := times_rp a r1
  obtain ⟨r3, t3, n3⟩ := times_rp a u
  obtain ⟨r4, t4, n4⟩ := times_rp b r3
  rw [ofB_val n1] at n2
  rw [ofB_val n3] at n4
  have hc := times_comm (clamp_bds a).1 (clamp_bds b).1 (ofB u)
  refine ⟨r1, t1, r2, t2, r3, t3, r4, t4, true, fixed_ok, ?_⟩
  rw [if_pos rfl, if_pos (eqB_iffN.2 (by rw [n2, n4, hc]))]
  exact ⟨true, reduced_ok (by rw [n2]; exact Fin.isLt _), rfl⟩
end Go.Proofs.YtjblfkmmbpcpaaaDoor
