/-
  PLAIN LAW OF AgreeIsMade (own work): the secret and the sid are the bytes that the document derives.
-/
import Derived.Test.YtjclppnbbpnfnaaDoorPm
import Derived.Test.YtjclppnbbpnfnaaDoorRAgreeIsMade
namespace Go.Proofs.YtjclppnbbpnfnaaDoor
set_option linter.unusedSimpArgs false
set_option linter.unusedVariables false
set_option linter.unusedSectionVars false
open Go Go.LW
set_option maxRecDepth 10000

theorem or_one (n : BitVec 32) : n ||| 1#32 ≠ 0#32 := fun h => by
  have h1 := congrArg (fun x : BitVec 32 => x.getLsbD 0) h
  simp at h1
def ffs (i : Nat) : List Byte := dl 32 fun q => if q < i then 255#8 else 0#8
theorem ffs_set {i : Nat} (hi : i < 32) : (ffs i).set i 255#8 = ffs (i + 1) := by
  have hl : (ffs i).length = 32 := dl_length _ _
  refine lext (by rw [List.length_set, hl]; exact (dl_length _ _).symm) fun q hq => ?_
  rw [List.length_set, hl] at hq
  have e : ∀ v, lit ((ffs i).set i v) q = if q = i then v else lit (ffs i) q := fun v => by
    unfold lit
    rw [List.getD_eq_getElem?_getD, List.getD_eq_getElem?_getD, List.getElem?_set]
    by_cases h : q = i
    · subst h; rw [if_pos rfl, if_pos rfl, if_pos (by omega)]; rfl
    · rw [if_neg (fun h2 => h h2.symm), if_neg h]
  rw [e]
  unfold ffs
  rw [lit_dl _ hq, lit_dl _ hq]
  by_cases h : q = i
  · subst h; rw [if_pos rfl, if_pos (by omega)]
  · rw [if_neg h]
    by_cases h2 : q < i
    · rw [if_pos h2, if_pos (by omega)]
    · rw [if_neg h2, if_neg (by omega)]
theorem ffs_zero : List.replicate 32 0#8 = ffs 0 := by decide +kernel
theorem ffs_all : ffs 32 = List.replicate 32 255#8 := by decide +kernel
theorem ffs_ok : Iter (lethelaw17_AgreeIsMade_l0) ((List.replicate 32 0#8), 0) (List.replicate 32 255#8) := by
  rw [← ffs_all]
  have key : Iter (lethelaw17_AgreeIsMade_l0) (ffs 0, 0) (ffs 32) :=
    Iter.count (fun i => (ffs i, i)) 32 (fun i hi => by
      unfold lethelaw17_AgreeIsMade_l0; dsimp only
      rw [if_pos hi, ffs_set hi]
      exact ⟨by rw [List.length_replicate]; exact hi, rfl⟩) (by
      unfold lethelaw17_AgreeIsMade_l0; dsimp only; rw [if_neg (by omega)])
  rwa [← ffs_zero] at key
theorem agreeIsMade_true (pk pp qk qp oi : Nat → Byte) (n : BitVec 32) (ok : Nat → Byte) : lethelaw17_AgreeIsMade pk pp qk qp oi n ok true := by
  have hn := or_one n
  by_cases hb : shE pk ok ≠ 0 ∨ shE qk oi ≠ 0 ∨ shE qk ok ≠ 0
  · refine ⟨_, _, _, _, _, _, _, start_bad pk pp qk qp oi ok _ hn hb, _, _, sh_ok pk ok, _, _, sh_ok qk oi, _, _, sh_ok qk ok, ?_⟩
    have ht : true = ((eqB 32 (fun _ => 0#8) (fun _ => 0#8)) && ((eqB 16 (fun _ => 0#8) (fun _ => 0#8)) && ((eqB 64 (fun _ => 0#8) (fun _ => 0#8)) && (((eqB 32 (fun _ => 0#8) (fun _ => 0#8)) && ((eqB 32 (fun _ => 0#8) (fun _ => 0#8)) && ((decide ((0#32) = 0#32)) && true))) && ((decide ((70 : Nat) = 70)) && true))))) := by
      simp only [eqA]; decide
    by_cases h1 : shE pk ok ≠ 0
    · rw [if_pos h1]; exact ht
    rw [if_neg h1]
    by_cases h2 : shE qk oi ≠ 0
    · rw [if_pos h2]; exact ht
    rw [if_neg h2, if_pos ((hb.resolve_left h1).resolve_left h2)]
    exact ht
  · have h1 : shE pk ok = 0 := Classical.not_not.1 fun h => hb (.inl h)
    have h2 : shE qk oi = 0 := Classical.not_not.1 fun h => hb (.inr (.inl h))
    have h3 : shE qk ok = 0 := Classical.not_not.1 fun h => hb (.inr (.inr h))
    refine ⟨_, _, _, _, _, _, _, start_good pk pp qk qp oi ok _ hn h1 h2 h3, _, _, sh_ok pk ok, _, _, sh_ok qk oi, _, _, sh_ok qk ok, ?_⟩
    rw [if_neg (by omega), if_neg (by omega), if_neg (by omega)]
    have hl := outA_length (tmR pk ok) (tmR qk oi) (tmR qk ok)
    refine ⟨_, ffs_ok, by decide, by simp only [List.length_append, List.length_replicate, dl_length]; decide, by simp only [List.length_append, List.length_replicate, dl_length]; decide, _, _, deriveA _ _ _, ?_⟩
    rw [if_neg (by decide), if_neg (by omega), if_neg (by decide)]
    refine ⟨by omega, ?_⟩
    rw [if_pos, hl]
    · refine ⟨by omega, ?_⟩
      rw [if_pos]
      · simp only [eqA]; simp
      · refine lext (by rw [dl_length, seg_length (by omega)]) fun q hq => ?_
        rw [dl_length] at hq
        rw [lit_dl _ hq]
        unfold sidA
        rw [spl_in _ _ _ _ _ (by omega)]; rfl
    · refine lext (by rw [dl_length, seg_length (by omega)]) fun q hq => ?_
      rw [dl_length] at hq
      rw [lit_dl _ hq, lit_seg (by omega) (by omega), Nat.zero_add]
      unfold secA
      rw [spl_in _ _ _ _ _ (by omega)]; rfl
end Go.Proofs.YtjclppnbbpnfnaaDoor
