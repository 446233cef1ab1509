/-
  RELATIONS of the package's functions, printed by this session's own program (auto.py).
-/
import Derived.Test.YthjkmhdgenmnoaaLx3
import Derived.Test.YthjkmhdgenmnoaaRAes
namespace Go.Proofs.Ythjkmhdgenmnoaa
set_option linter.unusedSimpArgs false
set_option linter.unusedVariables false
set_option linter.unusedSectionVars false
open Go Go.LW

def lethelaw04_of (key1 : Nat → BitVec 8) (r : Unit ⊕ ((Nat → BitVec 8) × (Nat → BitVec 8) × (Nat → BitVec 8) × (Nat → BitVec 8))) : Prop :=
  ((∃ x_6 : Nat, aes_New (dl 32 key1) (.inl x_6) ∧
    if x_6 ≠ 0 then (
      r = (.inl ())
    ) else (
      r = (.inl ())
    )
  ) ∨ (∃ x_7 : Nat → BitVec 8, ∃ x_8 : Nat → BitVec 8, ∃ x_9 : Nat → BitVec 8, ∃ x_10 : Nat → BitVec 8, ∃ x_11 : Nat, aes_New (dl 32 key1) (.inr (x_7, x_8, x_9, x_10, x_11)) ∧
    if x_11 ≠ 0 then (
      r = (.inl ())
    ) else (
      r = (.inr (x_7, x_8, x_9, x_10))
    )
  ))

def lethelaw04_short (b1 : List Byte) (most2 : Int) (r : (List Byte)) : Prop :=
  if most2 < ((b1.length : Nat) : Int) then (
    (0 ≤ most2) ∧
    (0 ≤ most2.toNat ∧ most2.toNat ≤ b1.length) ∧
    r = (seg b1 0 most2.toNat)
  ) else (
    r = b1
  )

def lethelaw04_Eq (a1 : List Byte) (b2 : List Byte) (r : Bool) : Prop :=
  r = (decide (a1 = b2))
end Go.Proofs.Ythjkmhdgenmnoaa
