/-
  PLAIN LAW OF ChainHands (own work): lists that are handed out are the caller's.
-/
import Derived.Test.YtjdgbahjpdopbaaDoorPChain
import Derived.Test.YtjdgbahjpdopbaaDoorRChainHands
namespace Go.Proofs.YtjdgbahjpdopbaaDoor
set_option linter.unusedSimpArgs false
set_option linter.unusedVariables false
set_option linter.unusedSectionVars false
open Go Go.LW

def hmark (mark : Int) (i : Nat) : Nat → Byte := upd (upd (fun _ => 0#8) 0 (BitVec.ofInt 8 mark)) 1 (BitVec.ofNat 8 i)
/-- the list, marked up to i -/
def marked (mark : Int) (X : List (Nat → Byte)) : Nat → List (Nat → Byte)
  | 0 => X
  | i + 1 => (marked mark X i).set i (hmark mark i)
theorem marked_length (mark : Int) (X : List (Nat → Byte)) : ∀ i, (marked mark X i).length = X.length
  | 0 => rfl
  | i + 1 => by show ((marked mark X i).set i _).length = _; rw [List.length_set, marked_length mark X i]
theorem marked_get (mark : Int) (X : List (Nat → Byte)) (d : Nat → Byte) : ∀ i j, j < i → i ≤ X.length → (marked mark X i).getD j d = hmark mark j
  | i + 1, j, h, hl => by
    have hll := marked_length mark X i
    show ((marked mark X i).set i _).getD j d = _
    rw [List.getD_eq_getElem?_getD, List.getElem?_set]
    by_cases hj : i = j
    · subst hj
      rw [if_pos rfl, if_pos (by omega)]; rfl
    · rw [if_neg hj, ← List.getD_eq_getElem?_getD]
      exact marked_get mark X d i j (by omega) (by omega)
theorem chainHands_true (k : Nat → Byte) (n mark : Int) (hn : -9223372036854775808 ≤ n ∧ n ≤ 9223372036854775807) : lethelaw13_ChainHands k n mark true := by
  obtain ⟨N, hN, eN⟩ := fold_ok hn (m := 64) (by decide)
  unfold lethelaw13_ChainHands
  rw [show ((64 : Nat) : Int) = 64 from rfl] at eN
  rw [eN]
  have hA := ahead_ok k (n := 1 + N) (by omega)
  have hl := msgs_length k (1 + N)
  have e1 : (1 + (N : Int)) = ((1 + N : Nat) : Int) := by omega
  rw [e1]
  have hml := marked_length mark (msgs k (1 + N)) (1 + N)
  refine ⟨_, _, _, hA, _, _, _, hA, ?_⟩
  rw [if_neg (by decide), if_neg (by decide), if_neg (by omega)]
  refine ⟨by omega, marked mark (msgs k (1 + N)) (1 + N), ?_, ?_⟩
  · refine Iter.count (fun i => (marked mark (msgs k (1 + N)) i, i)) (1 + N) (fun i hi => ?_) ?_
    · unfold lethelaw13_ChainHands_l0
      dsimp only
      have := marked_length mark (msgs k (1 + N)) i
      rw [if_pos (by omega)]
      exact ⟨by omega, by omega, rfl⟩
    · unfold lethelaw13_ChainHands_l0
      dsimp only
      rw [if_neg (by omega)]
  rw [List.nil_append]
  refine ⟨by rw [hml, hl, List.length_singleton]; omega, true, same_ok (by omega), ?_⟩
  rw [if_pos rfl]
  refine ⟨_, _, _, hA, ?_⟩
  rw [if_neg (by decide)]
  refine ⟨true, same_ok (by omega), ?_⟩
  rw [if_pos rfl]
  refine ⟨true, same_ok (by omega), ?_⟩
  rw [if_pos rfl]
  refine ⟨by rw [List.length_append, hml, hl, List.length_singleton]; omega, ?_⟩
  have e2 : (((1 + N : Nat) : Int)).toNat = (marked mark (msgs k (1 + N)) (1 + N)).length := by omega
  rw [e2]
  have e3 : ∀ (X : List (Nat → Byte)) (y d : Nat → Byte), (X ++ [y]).getD X.length d = y := fun X y d => by
    rw [List.getD_eq_getElem?_getD, List.getElem?_append_right (Nat.le_refl _), Nat.sub_self]; rfl
  rw [e3, if_pos (eqB_id _ _)]
  refine ⟨some (), ?_, fun _ => rfl⟩
  refine Iter.count (fun i => i) (1 + N) (fun i hi => ?_) ?_
  · unfold lethelaw13_ChainHands_l1
    rw [if_pos (by omega), marked_get mark _ _ (1 + N) i hi (by omega)]
    refine ⟨by omega, ?_⟩
    rw [show hmark mark i = upd (upd (fun _ => 0#8) 0 (BitVec.ofInt 8 mark)) 1 (BitVec.ofNat 8 i) from rfl, if_pos (eqB_id _ _)]
    exact ⟨by omega, rfl⟩
  · unfold lethelaw13_ChainHands_l1
    rw [if_neg (by omega)]
end Go.Proofs.YtjdgbahjpdopbaaDoor
