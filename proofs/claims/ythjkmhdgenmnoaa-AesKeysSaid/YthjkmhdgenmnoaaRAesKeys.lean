/-
  RELATIONS of the package's functions, printed by this session's own program (auto.py).
-/
import Derived.Test.YthjkmhdgenmnoaaLx3
import Derived.Test.YthjkmhdgenmnoaaRAes
import Derived.Test.YthjkmhdgenmnoaaRLaw04
namespace Go.Proofs.Ythjkmhdgenmnoaa
set_option linter.unusedSimpArgs false
set_option linter.unusedVariables false
set_option linter.unusedSectionVars false
open Go Go.LW

def lethelaw04_AesKeys (key1 : List Byte) (block2 : Nat → BitVec 8) (text3 : List Byte) (r : Bool) : Prop :=
  ((∃ x_9 : Nat, aes_New (List.replicate 32 0#8) (.inl x_9) ∧
    if x_9 ≠ 0 then (
      r = false
    ) else (
      r = false
    )
  ) ∨ (∃ x_10 : Nat → BitVec 8, ∃ x_11 : Nat → BitVec 8, ∃ x_12 : Nat → BitVec 8, ∃ x_13 : Nat → BitVec 8, ∃ x_14 : Nat, aes_New (List.replicate 32 0#8) (.inr (x_10, x_11, x_12, x_13, x_14)) ∧
    if x_14 ≠ 0 then (
      r = false
    ) else (
      ((∃ x_39 : Nat, aes_New key1 (.inl x_39) ∧
        if key1.length ≠ 32 then (
          if x_39 = 40 then (
            r = true
          ) else (
            r = false
          )
        ) else (
          if x_39 ≠ 0 then (
            r = false
          ) else (
            r = false
          )
        )
      ) ∨ (∃ x_40 : Nat → BitVec 8, ∃ x_41 : Nat → BitVec 8, ∃ x_42 : Nat → BitVec 8, ∃ x_43 : Nat → BitVec 8, ∃ x_44 : Nat, aes_New key1 (.inr (x_40, x_41, x_42, x_43, x_44)) ∧
        if key1.length ≠ 32 then (
          if x_44 = 40 then (
            r = false
          ) else (
            r = false
          )
        ) else (
          if x_44 ≠ 0 then (
            r = false
          ) else (
            ((∃ x_83 : Nat, aes_New key1 (.inl x_83) ∧
              if x_83 ≠ 0 then (
                r = false
              ) else (
                r = false
              )
            ) ∨ (∃ x_84 : Nat → BitVec 8, ∃ x_85 : Nat → BitVec 8, ∃ x_86 : Nat → BitVec 8, ∃ x_87 : Nat → BitVec 8, ∃ x_88 : Nat, aes_New key1 (.inr (x_84, x_85, x_86, x_87, x_88)) ∧
              if x_88 ≠ 0 then (
                r = false
              ) else (
                ∃ x_114 : Nat → BitVec 8, aes_Cipher_Encrypt x_40 x_41 x_42 x_43 block2 x_114 ∧
                ∃ x_121 : Nat → BitVec 8, aes_Cipher_Wipe x_40 x_41 x_42 x_43 x_121 ∧
                ∃ x_125 : List Byte, lethelaw04_short text3 100 x_125 ∧
                ∃ x_134 : Nat → BitVec 8, aes_Cipher_Encrypt x_84 x_85 x_86 x_87 block2 x_134 ∧
                if (eqB 16 x_134 x_114) = true then (
                  ∃ x_139 : Nat → BitVec 8, aes_Cipher_Encrypt x_121 x_41 x_42 x_43 block2 x_139 ∧
                  ∃ x_143 : Nat → BitVec 8, aes_Cipher_Encrypt x_10 x_11 x_12 x_13 block2 x_143 ∧
                  if (eqB 16 x_139 x_143) = true then (
                    ∃ x_148 : Nat → BitVec 8, aes_Cipher_Decrypt x_121 x_41 x_42 x_43 block2 x_148 ∧
                    ∃ x_152 : Nat → BitVec 8, aes_Cipher_Decrypt x_10 x_11 x_12 x_13 block2 x_152 ∧
                    if (eqB 16 x_148 x_152) = true then (
                      ∃ x_157 : List Byte, aes_Cipher_Stream x_121 x_41 x_42 x_43 block2 x_125 x_157 ∧
                      ∃ x_166 : List Byte, aes_Cipher_Stream x_10 x_11 x_12 x_13 block2 x_125 x_166 ∧
                      ∃ x_174 : Bool, lethelaw04_Eq x_157 x_166 x_174 ∧
                      r = x_174
                    ) else (
                      r = false
                    )
                  ) else (
                    r = false
                  )
                ) else (
                  r = false
                )
              )
            ))
          )
        )
      ))
    )
  ))
end Go.Proofs.Ythjkmhdgenmnoaa
