/-
  RELATIONS of the package's functions, printed by this session's own program (auto.py).
-/
import Derived.Test.YthjkmhdgenmnoaaLx3
import Derived.Test.YthjkmhdgenmnoaaRAes
import Derived.Test.YthjkmhdgenmnoaaRLaw04
namespace Go.Proofs.Ythjkmhdgenmnoaa
set_option linter.unusedSimpArgs false
set_option linter.unusedVariables false
set_option linter.unusedSectionVars false
open Go Go.LW

def lethelaw04_AesBack (key1 : Nat → BitVec 8) (a2 : Nat → BitVec 8) (b3 : Nat → BitVec 8) (x_4 : BitVec 8) (r : Bool) : Prop :=
  ((lethelaw04_of key1 (.inl ()) ∧
    r = false
  ) ∨ (∃ x_11 : Nat → BitVec 8, ∃ x_12 : Nat → BitVec 8, ∃ x_13 : Nat → BitVec 8, ∃ x_14 : Nat → BitVec 8, lethelaw04_of key1 (.inr (x_11, x_12, x_13, x_14)) ∧
    ∃ x_128 : Nat → BitVec 8, aes_Cipher_Encrypt x_11 x_12 x_13 x_14 a2 x_128 ∧
    ∃ x_131 : Nat → BitVec 8, aes_Cipher_Encrypt x_11 x_12 x_13 x_14 b3 x_131 ∧
    ∃ x_160 : Nat → BitVec 8, aes_Cipher_Decrypt x_11 x_12 x_13 x_14 x_128 x_160 ∧
    if (eqB 16 x_160 a2) = true then (
      ∃ x_164 : Nat → BitVec 8, aes_Cipher_Decrypt x_11 x_12 x_13 x_14 a2 x_164 ∧
      ∃ x_167 : Nat → BitVec 8, aes_Cipher_Encrypt x_11 x_12 x_13 x_14 x_164 x_167 ∧
      if (eqB 16 x_167 a2) = true then (
        if ((eqB 16 x_128 x_131) != (eqB 16 a2 b3)) = true then (
          r = false
        ) else (
          ∃ x_175 : BitVec 8, aes_Box x_4 x_175 ∧
          ∃ x_178 : BitVec 8, aes_Unbox x_175 x_178 ∧
          if x_178 = x_4 then (
            ∃ x_182 : BitVec 8, aes_Unbox x_4 x_182 ∧
            ∃ x_185 : BitVec 8, aes_Box x_182 x_185 ∧
            if x_185 = x_4 then (
              ∃ x_189 : BitVec 8, aes_Box x_4 x_189 ∧
              r = (decide (x_189 ≠ x_4))
            ) else (
              r = false
            )
          ) else (
            r = false
          )
        )
      ) else (
        r = false
      )
    ) else (
      r = false
    )
  ))
end Go.Proofs.Ythjkmhdgenmnoaa
