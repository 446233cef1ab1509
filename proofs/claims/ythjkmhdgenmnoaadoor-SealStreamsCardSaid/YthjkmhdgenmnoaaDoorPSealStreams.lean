/-
  PLAIN LAW OF SealStreams (own work): the XOR of two texts is that of their cipher bytes.
-/
import Derived.Test.YthjkmhdgenmnoaaDoorPSealL
import Derived.Test.YthjkmhdgenmnoaaDoorRSealStreams
namespace Go.Proofs.YthjkmhdgenmnoaaDoor
set_option linter.unusedSimpArgs false
set_option linter.unusedVariables false
set_option linter.unusedSectionVars false
open Go Go.LW

theorem xor_both (a b k : Byte) : (a ^^^ k) ^^^ (b ^^^ k) = a ^^^ b := by
  rw [BitVec.xor_comm b k, BitVec.xor_assoc, ← BitVec.xor_assoc k k b, BitVec.xor_self, BitVec.zero_xor]
theorem sealStreams_true (key : Nat → Byte) (a b data : List Byte) : lethelaw05_SealStreams key a b data true := by
  have hA := short_le a 512
  have hB := short_le b 512
  have hD := short_le data 200
  refine ⟨_, short_ok a 512, _, short_ok b 512, _, short_ok data 200, ?_⟩
  generalize a.take 512 = A at hA ⊢
  generalize b.take 512 = B at hB ⊢
  generalize data.take 200 = D at hD ⊢
  have hs := sealF_length key D A
  have ht := sealF_length key [] B
  refine ⟨_, _, seal_ok (by omega) (by omega), _, _, seal_ok (by omega) (by simp), ?_⟩
  rw [if_neg (by omega), if_neg (by omega)]
  refine ⟨by omega, ?_⟩
  rw [if_neg (by omega)]
  refine ⟨by omega, ?_⟩
  rw [if_neg (by omega)]
  refine ⟨some (), ?_, fun _ => rfl⟩
  refine Iter.count (fun i => (sealF key D A, sealF key [] B, i)) (min A.length B.length) (fun i hi => ?_) ?_
  · unfold lethelaw05_SealStreams_l0
    dsimp only
    rw [if_pos (by omega), if_pos (by omega)]
    refine ⟨by omega, by omega, by omega, by omega, ?_⟩
    rw [if_neg (fun h => h (by rw [sealF_at key D A (by omega), sealF_at key [] B (by omega), xor_both]))]
    exact ⟨by omega, rfl⟩
  · unfold lethelaw05_SealStreams_l0
    dsimp only
    by_cases h : min A.length B.length < A.length
    · rw [if_pos h, if_neg (by omega)]
    · rw [if_neg h]
end Go.Proofs.YthjkmhdgenmnoaaDoor
