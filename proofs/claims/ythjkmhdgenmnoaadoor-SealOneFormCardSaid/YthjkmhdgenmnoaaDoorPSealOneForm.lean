/-
  PLAIN LAW OF SealOneForm (own work): any bytes that are taken are what Seal answers of the text.
-/
import Derived.Test.YthjkmhdgenmnoaaDoorPSealL
import Derived.Test.YthjkmhdgenmnoaaDoorRSealOneForm
namespace Go.Proofs.YthjkmhdgenmnoaaDoor
set_option linter.unusedSimpArgs false
set_option linter.unusedVariables false
set_option linter.unusedSectionVars false
open Go Go.LW

theorem sealOneForm_true (key : Nat → Byte) (data s : List Byte) (hs : s.length < 9223372036854775808) : lethelaw05_SealOneForm key data s true := by
  have hD := short_le data 200
  refine ⟨_, short_ok data 200, ?_⟩
  generalize data.take 200 = D at hD ⊢
  have h1 : (dl 1 (lit ([120#8] : List Byte))).length = 1 := dl_length _ _
  have h33 := sealF_length key D (dl 1 (lit ([120#8] : List Byte)))
  generalize dl 1 (lit ([120#8] : List Byte)) = one at h1 h33 ⊢
  have hone := seal_ok (key := key) (data := D) (text := one) (by omega) (by omega)
  by_cases ha : s.length < 32
  · refine ⟨_, _, open_short ha, _, _, hone, ?_⟩
    rw [if_neg (by omega), if_neg (by omega), if_pos ha, if_pos rfl]
    rfl
  · by_cases hb : 544 < s.length
    · refine ⟨_, _, open_no (by omega) hs (.inl hb), _, _, hone, ?_⟩
      rw [if_neg (by omega), if_neg (by omega), if_neg ha, if_pos hb, if_pos rfl]
      rfl
    · have ho := open_ok (key := key) (data := D) (s := s) (by omega) (by omega) (by omega)
      by_cases h : seg s (s.length - 32) s.length = tagF (k2F key) D (seg s 0 (s.length - 32))
      · have e : openF key D s = (encS key (seg s 0 (s.length - 32)), 0) := by unfold openF; rw [if_pos h]
        rw [e] at ho
        refine ⟨_, _, ho, _, _, hone, ?_⟩
        have hc : (seg s 0 (s.length - 32)).length = s.length - 32 := by rw [seg_length (by omega)]; omega
        rw [if_neg (by omega), if_neg (by omega), if_neg ha, if_neg hb, if_neg (by omega)]
        refine ⟨_, _, seal_ok (by rw [encS_length]; omega) (by omega), ?_⟩
        rw [if_pos rfl]
        refine ⟨_, rfl, (decide_eq_true ?_).symm⟩
        unfold sealF
        rw [encS_twice, ← h, seg_app ⟨by omega, by omega, Nat.le_refl _⟩, seg_all]
      · have e : openF key D s = ([], 50) := by unfold openF; rw [if_neg h]
        rw [e] at ho
        refine ⟨_, _, ho, _, _, hone, ?_⟩
        rw [if_neg (by omega), if_neg (by omega), if_neg ha, if_neg hb, if_pos (by omega), if_pos rfl]
        rfl
end Go.Proofs.YthjkmhdgenmnoaaDoor
