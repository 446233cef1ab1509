/-
  PLAIN LAWS OF ChainSteps AND ChainHands (own work).
-/
import Derived.Test.YtjdgbahjpdopbaaDoorPChain
import Derived.Test.YtjdgbahjpdopbaaDoorRChainSteps
namespace Go.Proofs.YtjdgbahjpdopbaaDoor
set_option linter.unusedSimpArgs false
set_option linter.unusedVariables false
set_option linter.unusedSectionVars false
open Go Go.LW

theorem chainSteps_true (k s : Nat → Byte) (m n : Int) (hm : -9223372036854775808 ≤ m ∧ m ≤ 9223372036854775807) (hn : -9223372036854775808 ≤ n ∧ n ≤ 9223372036854775807) : lethelaw13_ChainSteps k s m n true := by
  obtain ⟨M, hM, eM⟩ := fold_ok hm (m := 33) (by decide)
  obtain ⟨N, hN, eN⟩ := fold_ok hn (m := 32) (by decide)
  unfold lethelaw13_ChainSteps
  rw [show ((33 : Nat) : Int) = 33 from rfl] at eM
  rw [show ((32 : Nat) : Int) = 32 from rfl] at eN
  rw [eM, eN]
  refine ⟨_, _, _, ahead_ok k (n := M) (by omega), _, _, _, ahead_ok (aftC k M) (n := N) (by omega), _, _, _, ahead_ok k (n := M + N) (by omega), false, ?_, ?_⟩
  · have l1 := msgs_length k M
    have l2 := msgs_length (aftC k M) N
    rw [if_neg (by decide), if_neg (by decide), if_neg (by decide), aftC_add, if_pos (eqB_id _ _), if_neg (by omega)]
    refine ⟨by omega, true, ?_, rfl⟩
    rw [msgs_add]
    exact same_ok (by rw [msgs_length]; omega)
  rw [if_neg (by decide)]
  refine ⟨_, _, step_ok k, _, _, _, ahead_ok k (n := 1) (by omega), false, ?_, ?_⟩
  · have e1 : msgs k 1 = [msC k] := rfl
    have e2 : aftC k 1 = nxC k := rfl
    rw [e1, e2, if_neg (by decide), if_pos (eqB_id _ _), if_neg (by simp)]
    refine ⟨by simp, ?_⟩
    rw [show ([msC k] : List (Nat → Byte)).getD 0 (fun _ => 0#8) = msC k from rfl, if_pos (eqB_id _ _)]
    refine ⟨_, macC k _, ?_⟩
    rw [show macL (dl 32 k) [1#8] = msC k from rfl, if_pos (eqB_id _ _)]
    refine ⟨_, macC k _, ?_⟩
    rw [show macL (dl 32 k) [2#8] = nxC k from rfl, eqB_id]
    rfl
  rw [if_neg (by decide)]
  refine ⟨_, _, root_ok k s, _, _, rootD k s, ?_⟩
  rw [if_pos rfl, root_parts]
  refine ⟨by simp only [dl_length]; decide, ?_⟩
  simp
end Go.Proofs.YtjdgbahjpdopbaaDoor
