/-
  PLAIN LAW OF AesBack (own work): encrypting and decrypting undo each other, so does the box; the relation of the law's function holds with 'true'.
-/
import Derived.Test.YthjkmhdgenmnoaaPAes4
import Derived.Test.YthjkmhdgenmnoaaRAesBack
namespace Go.Proofs.Ythjkmhdgenmnoaa
set_option linter.unusedSimpArgs false
set_option linter.unusedVariables false
set_option linter.unusedSectionVars false
open Go Go.LW

theorem eqB_of {s t : F8} (h : E16 s t) : eqB 16 s t = true := eqB_iff.2 h
theorem aesBack_true (key a b : F8) (x : BitVec 8) : lethelaw04_AesBack key a b x true := by
  refine .inr ⟨_, _, _, _, of_ok key, _, enc_ok _ _ _ _ _, _, enc_ok _ _ _ _ _, _, dec_ok _ _ _ _ _, ?_⟩
  generalize keyF (dl 32 key) = k
  rw [if_pos (eqB_of (dec_enc k a))]
  refine ⟨_, dec_ok _ _ _ _ _, _, enc_ok _ _ _ _ _, ?_⟩
  rw [if_pos (eqB_of (enc_dec k a))]
  have h1 : eqB 16 (encF k boxF twoF a) (encF k boxF twoF b) = eqB 16 a b := by
    rw [Bool.eq_iff_iff, eqB_iff, eqB_iff]
    exact ⟨fun h => ((dec_enc k a).symm.trans (decF_E h)).trans (dec_enc k b), fun h => encF_E h⟩
  rw [h1, if_neg (by simp)]
  refine ⟨_, box_ok x, _, unbox_ok _, ?_⟩
  rw [if_pos (isb_sb x)]
  refine ⟨_, unbox_ok x, _, box_ok _, ?_⟩
  rw [if_pos (sb_isb x)]
  refine ⟨_, box_ok x, ?_⟩
  simp [sb_ne x]
end Go.Proofs.Ythjkmhdgenmnoaa
