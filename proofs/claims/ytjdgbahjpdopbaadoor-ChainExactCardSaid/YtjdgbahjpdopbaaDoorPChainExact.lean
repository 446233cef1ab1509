/-
  PLAIN LAW OF ChainExact (own work): Root, Step and Ahead of any keys and number are the document's.
-/
import Derived.Test.YtjdgbahjpdopbaaDoorPRef03
import Derived.Test.YtjdgbahjpdopbaaDoorRChainExact
namespace Go.Proofs.YtjdgbahjpdopbaaDoor
set_option linter.unusedSimpArgs false
set_option linter.unusedVariables false
set_option linter.unusedSectionVars false
open Go Go.LW

theorem chainExact_true (a b : Nat → Byte) (n : Int) : lethelaw13_ChainExact a b n true := by
  refine ⟨_, _, root_ok a b, _, _, refroot_ok a b, _, _, step_ok a, _, _, refstep_ok a, ?_⟩
  by_cases h0 : n < 0
  · refine ⟨_, _, _, by unfold chain_Ahead; rw [if_pos h0], _, _, _, by unfold letheref13_Ahead; rw [if_pos h0], ?_⟩
    rw [if_pos (eqB_id _ _), if_pos (eqB_id _ _), if_pos (eqB_id _ _), if_pos (eqB_id _ _), if_pos (eqB_id _ _), if_pos rfl]
    exact ⟨true, same_ok (by simp), rfl⟩
  by_cases h1 : 256 < n
  · refine ⟨_, _, _, by unfold chain_Ahead; rw [if_neg h0, if_pos h1], _, _, _, by unfold letheref13_Ahead; rw [if_neg h0, if_pos h1], ?_⟩
    rw [if_pos (eqB_id _ _), if_pos (eqB_id _ _), if_pos (eqB_id _ _), if_pos (eqB_id _ _), if_pos (eqB_id _ _), if_pos rfl]
    exact ⟨true, same_ok (by simp), rfl⟩
  obtain ⟨m, rfl⟩ := Int.eq_ofNat_of_zero_le (show 0 ≤ n by omega)
  refine ⟨_, _, _, ahead_ok b (n := m) (by omega), _, _, _, refahead_ok b (n := m) (by omega), ?_⟩
  rw [if_pos (eqB_id _ _), if_pos (eqB_id _ _), if_pos (eqB_id _ _), if_pos (eqB_id _ _), if_pos (eqB_id _ _), if_pos rfl]
  exact ⟨true, same_ok (by rw [msgs_length]; omega), rfl⟩
end Go.Proofs.YtjdgbahjpdopbaaDoor
