/-
  PLAIN LAW OF SealOpens (own work): what is sealed is opened, and is what the document makes of the three keys.
-/
import Derived.Test.YthjkmhdgenmnoaaDoorPSealL
import Derived.Test.YthjkmhdgenmnoaaDoorRSealOpens
namespace Go.Proofs.YthjkmhdgenmnoaaDoor
set_option linter.unusedSimpArgs false
set_option linter.unusedVariables false
set_option linter.unusedSectionVars false
open Go Go.LW

theorem sealOpens_true (key : Nat → Byte) (data text : List Byte) : lethelaw05_SealOpens key data text true := by
  have hD := short_le data 200
  have hT := short_le text 512
  refine ⟨_, short_ok data 200, _, short_ok text 512, ?_⟩
  generalize data.take 200 = D at hD ⊢
  generalize text.take 512 = T at hT ⊢
  have hs := sealF_length key D T
  have ho := open_ok (key := key) (data := D) (s := sealF key D T) (by omega) (by omega) (by omega)
  rw [open_seal] at ho
  refine ⟨_, _, seal_ok (by omega) (by omega), _, _, ho, sealF key D T, false, ?_, ?_⟩
  · rw [if_neg (by omega), if_neg (by omega)]
    refine ⟨_, rfl, ?_⟩
    rw [if_pos (by simp)]
    refine ⟨by omega, ?_⟩
    rw [if_neg (by omega)]
    refine ⟨_, length_ok _, rfl, ?_⟩
    rw [if_pos (by omega)]
    exact (decide_eq_false (fun h => h (by omega))).symm
  · rw [if_neg (by simp)]
    refine .inr ⟨_, _, _, _, three_ok key, ?_⟩
    rw [if_pos rfl]
    have hl := skey_length key
    refine .inr ⟨_, _, _, _, _, new_ok (by rw [seg_length (by omega)]), ?_⟩
    rw [if_neg (by omega)]
    have hc := strF_length (k1F key) boxF twoF (ivF key) T
    refine ⟨_, str_ok _ _ _ _ _ (by omega), ?_⟩
    refine ⟨by show 0 + (strF (k1F key) boxF twoF (ivF key) T).length ≤ _; omega, _, tag_ok (by rw [k2F_length]; omega) (by omega) (by show (strF (k1F key) boxF twoF (ivF key) T).length ≤ _; omega), ?_, _, rfl, ?_⟩
    · rw [List.nil_append, tagF_length]; show (strF (k1F key) boxF twoF (ivF key) T).length + 32 ≤ _; omega
    · exact (decide_eq_true rfl).symm
end Go.Proofs.YthjkmhdgenmnoaaDoor
