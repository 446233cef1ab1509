/-
  PLAIN (own work): the law NetHands: what is handed in is not kept, what is handed out is the caller's.
-/
import Derived.Test.YtbkgblhmlenocaaPm
import Derived.Test.YtbkgblhmlenocaaRNetHands
namespace Go.Proofs.Ytbkgblhmlenocaa
set_option linter.unusedSimpArgs false
set_option linter.unusedVariables false
set_option linter.unusedSectionVars false
open Go Go.LW
def cst (v : Byte) (n : Nat) : List Byte := (List.range n).map fun _ => v
theorem cst_length (v : Byte) (n : Nat) : (cst v n).length = n := by unfold cst; rw [List.length_map, List.length_range]
theorem cst_lit (v : Byte) {n i : Nat} (h : i < n) : lit (cst v n) i = v := by
  unfold lit cst
  rw [List.getD_eq_getElem?_getD, List.getElem?_map, List.getElem?_range h]
  rfl
theorem lit_last (X : List Byte) (v : Byte) : lit (X ++ [v]) X.length = v := by
  unfold lit
  rw [List.getD_eq_getElem?_getD, List.getElem?_append_right (Nat.le_refl _), Nat.sub_self]
  rfl
theorem lit_front (v w : Byte) {n : Nat} (h : 0 < n) : lit (cst v n ++ [w]) 0 = v := by
  have := cst_lit v h
  unfold lit at this ⊢
  rw [List.getD_eq_getElem?_getD, List.getElem?_append_left (by rw [cst_length]; exact h), ← List.getD_eq_getElem?_getD]
  exact this
theorem same_same (n f t : Int) (X : List Byte) : lethelaw23_same n f t X n f t X true := by
  unfold lethelaw23_same
  rw [if_pos rfl, if_pos rfl, if_pos rfl, decide_eq_true rfl]
theorem hd_seg (Y : List Byte) : seg ((([] : List Byte) ++ Y) ++ ([7#8, 7#8, 7#8] : List Byte)) 0 Y.length = Y := by unfold seg; simp

section
variable (b : List Byte) (mark : Int)
def hB : List Byte := ([1#8, 2#8] : List Byte) ++ (seg b 0 (min b.length 40))
theorem hB_len : 2 ≤ (hB b).length ∧ (hB b).length ≤ 42 := by
  unfold hB seg
  simp
  omega
theorem hs_seg : seg ((([] : List Byte) ++ (([1#8, 2#8] : List Byte) ++ (seg b 0 (min b.length 40)))) ++ ([7#8, 7#8, 7#8] : List Byte)) 0 ((([1#8, 2#8] : List Byte) ++ (seg b 0 (min b.length 40))).length) = hB b := hd_seg (hB b)
theorem hs_B : (([1#8, 2#8] : List Byte) ++ (seg b 0 (min b.length 40))) = hB b := rfl
theorem it0 : Iter (lethelaw23_NetHands_l0 b mark) (hB b, (([] : List Byte) ++ hB b) ++ ([7#8, 7#8, 7#8] : List Byte), 0) (hB b) := by
  have hl := hB_len b
  have hL : ((([] : List Byte) ++ hB b) ++ ([7#8, 7#8, 7#8] : List Byte)).length = (hB b).length + 3 := by simp
  refine Iter.count (fun i => (hB b, mkl (fun _ => BitVec.ofInt 8 mark) ((([] : List Byte) ++ hB b) ++ ([7#8, 7#8, 7#8] : List Byte)) i, i)) (hB b).length (fun i hi => ?_) ?_
  · unfold lethelaw23_NetHands_l0
    dsimp only
    rw [hs_B, if_pos hi]
    refine ⟨by omega, by omega, ?_⟩
    rw [mkl_set (fun _ => BitVec.ofInt 8 mark) _ (by omega)]
  · unfold lethelaw23_NetHands_l0
    dsimp only
    rw [hs_B, if_neg (by omega)]
theorem it1 (x : List Byte) : Iter (lethelaw23_NetHands_l1 b mark) (x, 0, hB b) (x, cst (BitVec.ofInt 8 (w64 (mark + 0))) (hB b).length) := by
  have hl := hB_len b
  refine Iter.count (fun i => (x, i, mkl (fun _ => BitVec.ofInt 8 (w64 (mark + 0))) (hB b) i)) (hB b).length (fun i hi => ?_) ?_
  · unfold lethelaw23_NetHands_l1
    dsimp only
    rw [hs_seg, if_pos hi]
    refine ⟨by omega, by omega, ?_⟩
    rw [mkl_set (fun _ => BitVec.ofInt 8 (w64 (mark + 0))) _ (by omega)]
  · unfold lethelaw23_NetHands_l1
    dsimp only
    rw [hs_seg, if_neg (by omega), mkl_all]
    rfl
theorem it2 (x : List Byte) : Iter (lethelaw23_NetHands_l2 b mark) (x, 0, hB b) (x, cst (BitVec.ofInt 8 (w64 (mark + 1))) (hB b).length) := by
  have hl := hB_len b
  refine Iter.count (fun i => (x, i, mkl (fun _ => BitVec.ofInt 8 (w64 (mark + 1))) (hB b) i)) (hB b).length (fun i hi => ?_) ?_
  · unfold lethelaw23_NetHands_l2
    dsimp only
    rw [hs_seg, if_pos hi]
    refine ⟨by omega, by omega, ?_⟩
    rw [mkl_set (fun _ => BitVec.ofInt 8 (w64 (mark + 1))) _ (by omega)]
  · unfold lethelaw23_NetHands_l2
    dsimp only
    rw [hs_seg, if_neg (by omega), mkl_all]
    rfl
theorem it3 (x : List Byte) : Iter (lethelaw23_NetHands_l3 b mark) (x, 0, hB b) (x, cst (BitVec.ofInt 8 (w64 (mark + 2))) (hB b).length) := by
  have hl := hB_len b
  refine Iter.count (fun i => (x, i, mkl (fun _ => BitVec.ofInt 8 (w64 (mark + 2))) (hB b) i)) (hB b).length (fun i hi => ?_) ?_
  · unfold lethelaw23_NetHands_l3
    dsimp only
    rw [hs_seg, if_pos hi]
    refine ⟨by omega, by omega, ?_⟩
    rw [mkl_set (fun _ => BitVec.ofInt 8 (w64 (mark + 2))) _ (by omega)]
  · unfold lethelaw23_NetHands_l3
    dsimp only
    rw [hs_seg, if_neg (by omega), mkl_all]
    rfl
theorem it4 (x : List Byte) : Iter (lethelaw23_NetHands_l4 b mark) (x, 0, hB b) (x, cst (BitVec.ofInt 8 (w64 (mark + 3))) (hB b).length) := by
  have hl := hB_len b
  refine Iter.count (fun i => (x, i, mkl (fun _ => BitVec.ofInt 8 (w64 (mark + 3))) (hB b) i)) (hB b).length (fun i hi => ?_) ?_
  · unfold lethelaw23_NetHands_l4
    dsimp only
    rw [hs_seg, if_pos hi]
    refine ⟨by omega, by omega, ?_⟩
    rw [mkl_set (fun _ => BitVec.ofInt 8 (w64 (mark + 3))) _ (by omega)]
  · unfold lethelaw23_NetHands_l4
    dsimp only
    rw [hs_seg, if_neg (by omega), mkl_all]
    rfl
theorem it5 : Iter (lethelaw23_NetHands_l5 b mark (cst (BitVec.ofInt 8 (w64 (mark + 0))) (hB b).length) true) 0 (some ()) := by
  have hl := hB_len b
  refine Iter.count (fun i => i) (hB b).length (fun i hi => ?_) ?_
  · unfold lethelaw23_NetHands_l5
    rw [hs_seg, if_pos hi]
    refine ⟨hi, ?_⟩
    rw [if_neg (fun h => h (cst_lit _ hi))]
    exact ⟨by omega, rfl⟩
  · unfold lethelaw23_NetHands_l5
    rw [hs_seg, if_neg (by omega)]
theorem it6 : Iter (lethelaw23_NetHands_l6 b mark (cst (BitVec.ofInt 8 (w64 (mark + 1))) (hB b).length) true) 0 (some ()) := by
  have hl := hB_len b
  refine Iter.count (fun i => i) (hB b).length (fun i hi => ?_) ?_
  · unfold lethelaw23_NetHands_l6
    rw [hs_seg, if_pos hi]
    refine ⟨hi, ?_⟩
    rw [if_neg (fun h => h (cst_lit _ hi))]
    exact ⟨by omega, rfl⟩
  · unfold lethelaw23_NetHands_l6
    rw [hs_seg, if_neg (by omega)]
theorem it7 : Iter (lethelaw23_NetHands_l7 b mark (cst (BitVec.ofInt 8 (w64 (mark + 2))) (hB b).length) true) 0 (some ()) := by
  have hl := hB_len b
  refine Iter.count (fun i => i) (hB b).length (fun i hi => ?_) ?_
  · unfold lethelaw23_NetHands_l7
    rw [hs_seg, if_pos hi]
    refine ⟨hi, ?_⟩
    rw [if_neg (fun h => h (cst_lit _ hi))]
    exact ⟨by omega, rfl⟩
  · unfold lethelaw23_NetHands_l7
    rw [hs_seg, if_neg (by omega)]
theorem netHands_true : lethelaw23_NetHands b mark true := by
  have hl := hB_len b
  have e3 : ((([] : List Byte) ++ hB b) ++ ([7#8, 7#8, 7#8] : List Byte)).length = (hB b).length + 3 := by simp
  unfold lethelaw23_NetHands
  rw [hs_seg, hs_B]
  have hc : ∀ v w : Byte, (cst v (hB b).length ++ ([w] : List Byte)).length = (hB b).length + 1 := fun v w => by rw [List.length_append, cst_length]; rfl
  have hct : ∀ v w : Byte, lit (cst v (hB b).length ++ ([w] : List Byte)) (hB b).length = w := fun v w => by
    have := lit_last (cst v (hB b).length) w
    rwa [cst_length] at this
  have hn : ∀ v w : Byte, (((((cst v (hB b).length ++ ([w] : List Byte)).length : Nat) : Int) - 1).toNat) = (hB b).length := fun v w => by rw [hc]; omega
  have hsg : (seg b 0 (min b.length 40)).length ≤ 40 := by unfold seg; simp; omega
  have hSame : ∀ X : List Byte, (∃ x : Bool, lethelaw23_same 0 1 2 X 0 1 2 X x ∧ if x = true then (∃ y : Bool, lethelaw23_same 1 2 1 X 1 2 1 X y ∧ if y = true then (∃ z : Bool, lethelaw23_same 2 1 2 X 2 1 2 X z ∧ true = z) else true = false) else true = false) := fun X =>
    ⟨true, same_same .., by rw [if_pos rfl]; exact ⟨true, same_same .., by rw [if_pos rfl]; exact ⟨true, same_same .., rfl⟩⟩⟩
  refine ⟨⟨by omega, by omega⟩, by simp only [List.length_cons, List.length_nil]; omega, by omega, by simp only [List.length_append, List.length_cons, List.length_nil]; omega, ⟨by omega, by omega⟩, by omega, ⟨by omega, by omega⟩, by omega, by omega, by simp only [List.length_cons, List.length_nil]; omega, ?_⟩
  rw [if_pos (by rw [List.nil_append])]
  refine ⟨_, it0 b mark, by omega, by omega, _, _, it1 b mark _, _, _, it2 b mark _, _, _, it3 b mark _, by simp only [List.length_cons, List.length_nil]; omega, by simp only [List.length_cons, List.length_nil]; omega, by simp only [List.length_cons, List.length_nil]; omega, true, hSame _, ?_⟩
  rw [if_pos rfl]
  refine ⟨by omega, ?_⟩
  rw [if_pos rfl]
  refine ⟨true, hSame _, ?_⟩
  rw [if_pos rfl]
  refine ⟨true, hSame _, ?_⟩
  rw [if_pos rfl]
  refine ⟨_, _, it4 b mark _, by simp only [List.length_cons, List.length_nil]; omega, ?_⟩
  rw [if_pos rfl]
  refine ⟨by rw [hc]; omega, ?_⟩
  rw [if_neg (fun h => h (hct _ _))]
  refine ⟨by rw [hc]; omega, ?_⟩
  rw [if_neg (fun h => h (lit_front _ _ (by omega)))]
  refine ⟨_, it5 b mark, fun _ => ?_⟩
  rw [if_neg (fun h => h rfl)]
  refine ⟨by rw [hc]; omega, by rw [hc]; omega, ?_⟩
  rw [if_neg (fun h => h (by rw [hn]; exact hct _ _))]
  refine ⟨_, it6 b mark, fun _ => ?_⟩
  rw [if_neg (fun h => h rfl)]
  refine ⟨by rw [hc]; omega, by rw [hc]; omega, ?_⟩
  rw [if_neg (fun h => h (by rw [hn]; exact hct _ _))]
  refine ⟨_, it7 b mark, fun _ => ?_⟩
  rw [if_neg (fun h => h rfl)]
  refine ⟨by rw [hc]; omega, by rw [hc]; omega, ?_⟩
  rw [if_neg (fun h => h (by rw [hn]; exact hct _ _))]
end
end Go.Proofs.Ytbkgblhmlenocaa
