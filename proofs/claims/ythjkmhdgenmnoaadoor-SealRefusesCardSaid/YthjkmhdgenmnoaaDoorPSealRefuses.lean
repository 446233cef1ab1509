/-
  PLAIN LAW OF SealRefuses (own work): a turned byte of the tag is refused; any other, unless the tag of what came is the one that came.
-/
import Derived.Test.YthjkmhdgenmnoaaDoorPSealL
import Derived.Test.YthjkmhdgenmnoaaDoorRSealRefuses
namespace Go.Proofs.YthjkmhdgenmnoaaDoor
set_option linter.unusedSimpArgs false
set_option linter.unusedVariables false
set_option linter.unusedSectionVars false
open Go Go.LW

theorem open_two (key : Nat → Byte) (data s : List Byte) :
    ((openF key data s).2 = 0 ∧ tagF (k2F key) data (seg s 0 (s.length - 32)) = seg s (s.length - 32) s.length) ∨ ((openF key data s).2 = 50 ∧ tagF (k2F key) data (seg s 0 (s.length - 32)) ≠ seg s (s.length - 32) s.length) := by
  unfold openF
  by_cases h : seg s (s.length - 32) s.length = tagF (k2F key) data (seg s 0 (s.length - 32))
  · rw [if_pos h]; exact .inl ⟨rfl, h.symm⟩
  · rw [if_neg h]; exact .inr ⟨rfl, fun h2 => h h2.symm⟩
theorem flip_ne {y : Nat} (hy : y < 255) (x : Byte) : x ^^^ BitVec.ofInt 8 (1 + (y : Int)) ≠ x := fun h => by
  have e : BitVec.ofInt 8 (1 + (y : Int)) = BitVec.ofNat 8 (1 + y) := by
    rw [show (1 + (y : Int)) = ((1 + y : Nat) : Int) by omega, BitVec.ofInt_natCast]
  rw [e] at h
  have h0 : BitVec.ofNat 8 (1 + y) = 0#8 := by
    have := congrArg (x ^^^ ·) h
    simp only [← BitVec.xor_assoc, BitVec.xor_self, BitVec.zero_xor] at this
    exact this
  have h1 := congrArg BitVec.toNat h0
  rw [BitVec.toNat_ofNat] at h1
  simp at h1
  omega
theorem sealRefuses_true (key : Nat → Byte) (data text : List Byte) (other : Nat → Byte) (odd : List Byte) (at_ by_ : Int) : lethelaw05_SealRefuses key data text other odd at_ by_ true := by
  have hD := short_le data 200
  have hT := short_le text 512
  have hO := short_le odd 200
  refine ⟨_, short_ok data 200, _, short_ok text 512, _, short_ok odd 200, ?_⟩
  generalize data.take 200 = D at hD ⊢
  generalize text.take 512 = T at hT ⊢
  generalize odd.take 200 = O at hO ⊢
  have hs := sealF_length key D T
  have ho := open_seal (key := key) (data := D) (text := T)
  refine ⟨_, _, seal_ok (by omega) (by omega), ?_⟩
  rw [if_neg (by omega), if_neg (by omega)]
  generalize sealF key D T = S at hs ho ⊢
  obtain ⟨p, hp, hr1⟩ := rest_ok at_ (m := S.length) (by omega) (by omega)
  obtain ⟨y, hy, hr2⟩ := rest_ok by_ (m := 255) (by omega) (by omega)
  simp only [List.nil_append]
  refine ⟨by omega, _, hr1, by omega, _, hr2, by omega, by omega, ?_⟩
  rw [show ((p : Nat) : Int).toNat = p from rfl]
  have hset : ∀ q, lit (S.set p (lit S p ^^^ BitVec.ofInt 8 (1 + (y : Int)))) q = if q = p then lit S p ^^^ BitVec.ofInt 8 (1 + (y : Int)) else lit S q := fun q => lit_set hp
  have hbl : (S.set p (lit S p ^^^ BitVec.ofInt 8 (1 + (y : Int)))).length = S.length := List.length_set
  have hne := flip_ne hy (lit S p)
  generalize S.set p (lit S p ^^^ BitVec.ofInt 8 (1 + (y : Int))) = b at hset hbl ⊢
  generalize lit S p ^^^ BitVec.ofInt 8 (1 + (y : Int)) = z at hset hne
  have e : (((S.length : Nat) : Int) - 32).toNat = S.length - 32 := by omega
  have hk2 := k2F_length key
  have hk3 := k2F_length other
  have hob := open_two key D b
  rw [hbl] at hob
  refine ⟨(openF key D b).1, (openF key D b).2, open_ok (by omega) (by omega) (by omega), true, S, b, ?_, fun _ => ⟨by omega, .inr ⟨_, _, _, _, three_ok key, true, S, ?_, fun _ => ?_⟩⟩⟩
  · by_cases hc : ((T.length : Nat) : Int) ≤ (p : Int)
    · rw [if_pos hc]
      have h50 : (openF key D b).2 = 50 := by
        rcases hob with ⟨_, h⟩ | ⟨h, _⟩
        · exfalso
          have hoS := open_two key D S
          rw [ho] at hoS
          rcases hoS with ⟨_, h2⟩ | ⟨h2, _⟩
          · have e1 : seg b 0 (S.length - 32) = seg S 0 (S.length - 32) := by
              refine lext (by rw [seg_length (by omega), seg_length (by omega)]) fun q hq => ?_
              rw [seg_length (by omega)] at hq
              rw [lit_seg (by omega) hq, lit_seg (by omega) hq, hset, if_neg (by omega)]
            rw [e1, h2] at h
            have h3 := congrArg (fun X => lit X (p - (S.length - 32))) h
            rw [lit_seg (by omega) (by omega), lit_seg (by omega) (by omega), show S.length - 32 + (p - (S.length - 32)) = p by omega, hset, if_pos rfl] at h3
            exact hne h3.symm
          · simp at h2
        · exact h
      rw [if_neg (by omega)]
      exact ⟨rfl, rfl, rfl⟩
    · rw [if_neg hc]
      exact ⟨rfl, rfl, rfl⟩
  · rw [if_pos rfl, e]
    refine ⟨by omega, by omega, by omega, by omega, _, tag_ok (by omega) (by omega) (by rw [seg_length (by omega)]; omega), _, rfl, ?_⟩
    rcases hob with ⟨h1, h2⟩ | ⟨h1, h2⟩
    · rw [h1, if_neg (by simp [h2]), if_neg (by omega)]
      exact ⟨rfl, rfl⟩
    · rw [h1, if_neg (by simp [h2]), if_pos (by omega), if_neg (by omega)]
      exact ⟨rfl, rfl⟩
  · have hoo := open_two key O S
    refine ⟨(openF key O S).1, (openF key O S).2, open_ok (by omega) (by omega) (by omega), true, S, ?_, fun _ => ?_⟩
    · rw [e]
      refine ⟨by omega, by omega, by omega, by omega, _, tag_ok (by omega) (by omega) (by rw [seg_length (by omega)]; omega), _, rfl, ?_⟩
      rcases hoo with ⟨h1, h2⟩ | ⟨h1, h2⟩
      · rw [h1, if_neg (by simp [h2]), if_neg (by omega)]
        exact ⟨rfl, rfl⟩
      · rw [h1, if_neg (by simp [h2]), if_pos (by omega), if_neg (by omega)]
        exact ⟨rfl, rfl⟩
    · have hox := open_two other D S
      refine ⟨(openF other D S).1, (openF other D S).2, open_ok (by omega) (by omega) (by omega), .inr ⟨_, _, _, _, three_ok other, ?_⟩⟩
      rw [if_pos rfl, e]
      refine ⟨by omega, by omega, by omega, by omega, _, tag_ok (by omega) (by omega) (by rw [seg_length (by omega)]; omega), _, rfl, ?_⟩
      rcases hox with ⟨h1, h2⟩ | ⟨h1, h2⟩
      · rw [h1, if_pos (by simp [h2]), if_pos rfl]; trivial
      · rw [h1, if_pos (by simp [h2]), if_neg (by omega)]
        rfl
end Go.Proofs.YthjkmhdgenmnoaaDoor
