/-
  PLAIN LAW OF AesKeys (own work): keys of 32 bytes alone are taken; a wiped cipher is that of zeros; the relation of the law's function holds with 'true'.
-/
import Derived.Test.YthjkmhdgenmnoaaPAes4
import Derived.Test.YthjkmhdgenmnoaaRAesKeys
namespace Go.Proofs.Ythjkmhdgenmnoaa
set_option linter.unusedSimpArgs false
set_option linter.unusedVariables false
set_option linter.unusedSectionVars false
open Go Go.LW

theorem eqB_ok {s t : F8} (h : E16 s t) : eqB 16 s t = true := eqB_iff.2 h
theorem wipe_ok (k box back two : F8) : aes_Cipher_Wipe k box back two (expF box (List.replicate 32 0#8) k) := ⟨_, exp_ok _ _ _ _ List.length_replicate, rfl⟩
theorem aesKeys_true (key : List Byte) (block : F8) (text : List Byte) : lethelaw04_AesKeys key block text true := by
  refine .inr ⟨_, _, _, _, _, new_ok List.length_replicate, ?_⟩
  rw [if_neg (by omega)]
  by_cases hk : key.length = 32
  · refine .inr ⟨_, _, _, _, _, new_ok hk, ?_⟩
    rw [if_neg (by omega), if_neg (by omega)]
    refine .inr ⟨_, _, _, _, _, new_ok hk, ?_⟩
    rw [if_neg (by omega)]
    refine ⟨_, enc_ok _ _ _ _ _, _, wipe_ok _ _ _ _, _, short_ok text 100, _, enc_ok _ _ _ _ _, ?_⟩
    rw [if_pos (eqB_ok E16.rfl')]
    have hw : E240 (expF boxF (List.replicate 32 0#8) (keyF key)) (keyF (List.replicate 32 0#8)) := expF_E _ _ _ _
    refine ⟨_, enc_ok _ _ _ _ _, _, enc_ok _ _ _ _ _, ?_⟩
    rw [if_pos (eqB_ok (encF_k hw E16.rfl'))]
    refine ⟨_, dec_ok _ _ _ _ _, _, dec_ok _ _ _ _ _, ?_⟩
    rw [if_pos (eqB_ok (decF_k hw E16.rfl'))]
    have hl : (text.take 100).length ≤ 140737488355328 := by rw [List.length_take]; omega
    refine ⟨_, str_ok _ _ _ _ _ hl, _, str_ok _ _ _ _ _ hl, _, Eq_ok _ _, ?_⟩
    rw [strF_k hw]; simp
  · refine .inl ⟨_, new_no hk, ?_⟩
    rw [if_pos hk, if_pos rfl]
end Go.Proofs.Ythjkmhdgenmnoaa
