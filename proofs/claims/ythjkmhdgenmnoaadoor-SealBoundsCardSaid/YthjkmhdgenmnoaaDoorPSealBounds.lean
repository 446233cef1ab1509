/-
  PLAIN LAW OF SealBounds (own work): which lengths are taken.
-/
import Derived.Test.YthjkmhdgenmnoaaDoorPSealL
import Derived.Test.YthjkmhdgenmnoaaDoorRSealBounds
namespace Go.Proofs.YthjkmhdgenmnoaaDoor
set_option linter.unusedSimpArgs false
set_option linter.unusedVariables false
set_option linter.unusedSectionVars false
open Go Go.LW

theorem sealBounds_true (key : Nat → Byte) (text data : Int) : lethelaw05_SealBounds key text data true := by
  obtain ⟨k, hk, hr⟩ := rest_ok text (m := 30) (by omega) (by omega)
  obtain ⟨d, hd, hr2⟩ := rest_ok data (m := 30) (by omega) (by omega)
  refine ⟨_, hr, by omega, _, hr2, by omega, ?_⟩
  have e1 : (500 + (k : Int)).toNat = 500 + k := by omega
  have e2 : (65520 + (d : Int)).toNat = 65520 + d := by omega
  have e3 : ((500 + (k : Int)) + 32).toNat = 532 + k := by omega
  rw [e1, e2, e3]
  have hT : (List.replicate (500 + k) 0#8 : List Byte).length = 500 + k := List.length_replicate
  have hD : (List.replicate (65520 + d) 0#8 : List Byte).length = 65520 + d := List.length_replicate
  have hS : (List.replicate (532 + k) 0#8 : List Byte).length = 532 + k := List.length_replicate
  have hN : (List.replicate 31 0#8 : List Byte).length = 31 := List.length_replicate
  generalize (List.replicate (500 + k) 0#8 : List Byte) = T at hT ⊢
  generalize (List.replicate (65520 + d) 0#8 : List Byte) = D at hD ⊢
  generalize (List.replicate (532 + k) 0#8 : List Byte) = S at hS ⊢
  generalize (List.replicate 31 0#8 : List Byte) = N at hN ⊢
  obtain ⟨s, e, hs, h1⟩ : ∃ s e, seal_Seal key D T (s, e) ∧ ((500 + k ≤ 512 ∧ 65520 + d ≤ 65535 ∧ e = 0) ∨ (¬ (500 + k ≤ 512 ∧ 65520 + d ≤ 65535) ∧ e = 5 ∧ s = [])) := by
    by_cases ok : 500 + k ≤ 512 ∧ 65520 + d ≤ 65535
    · exact ⟨_, _, seal_ok (by omega) (by omega), .inl ⟨ok.1, ok.2, rfl⟩⟩
    · exact ⟨_, _, seal_no (by omega), .inr ⟨ok, rfl, rfl⟩⟩
  obtain ⟨x, f, hf, h2⟩ : ∃ x f, seal_Open key D S (x, f) ∧ ((500 + k ≤ 512 ∧ 65520 + d ≤ 65535 ∧ f ≠ 5) ∨ (¬ (500 + k ≤ 512 ∧ 65520 + d ≤ 65535) ∧ f = 5)) := by
    by_cases ok : 500 + k ≤ 512 ∧ 65520 + d ≤ 65535
    · refine ⟨(openF key D S).1, (openF key D S).2, open_ok (by omega) (by omega) (by omega), .inl ⟨ok.1, ok.2, ?_⟩⟩
      unfold openF; split <;> simp
    · exact ⟨_, _, open_no (by omega) (by omega) (by omega), .inr ⟨ok, rfl⟩⟩
  refine ⟨s, e, ⟨by omega, by omega, by omega, by omega, _, _, hs, rfl, rfl⟩, false, ?_, ?_⟩
  · rcases h1 with ⟨a, b, rfl⟩ | ⟨a, rfl, rfl⟩
    · rw [if_pos (by omega), if_neg (by simp; omega), if_neg (by omega)]
    · by_cases c : 500 + (k : Int) ≤ 512
      · rw [if_pos c, if_neg (by simp; omega), if_pos (by omega), if_neg (by omega)]
        rfl
      · rw [if_neg c, if_neg (by simp), if_pos (by omega), if_neg (by omega)]
        rfl
  · rw [if_neg (by simp)]
    refine ⟨f, ⟨by omega, by omega, by omega, by omega, by omega, _, _, hf, rfl⟩, true, ?_, fun _ => ?_⟩
    · rcases h2 with ⟨a, b, c⟩ | ⟨a, rfl⟩
      · rw [if_neg (by omega), if_neg (by simp [c]; omega)]
      · by_cases c : 512 < 500 + (k : Int)
        · rw [if_pos c, if_neg (by simp)]
        · rw [if_neg c, if_neg (by simp; omega)]
    · refine ⟨10, ⟨by omega, by omega, _, _, open_short (by omega), rfl⟩, if 0 ≤ text ∧ text ≤ 512 then text + 32 else 0, ?_, ?_⟩
      · by_cases a : 0 ≤ text
        · rw [if_pos a]
          by_cases b : text ≤ 512
          · rw [if_pos b, if_pos ⟨a, b⟩]
          · rw [if_neg b, if_neg (fun h => b h.2)]
        · rw [if_neg a, if_neg (fun h => a h.1)]
      · rw [if_pos rfl]
        exact ⟨_, length_ok text, (decide_eq_true rfl).symm⟩
end Go.Proofs.YthjkmhdgenmnoaaDoor
