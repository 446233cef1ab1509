/-
  RELATIONS of the package's functions, printed by this session's own program (auto.py).
-/
import Derived.Test.YthjkmhdgenmnoaaDoorLx6
import Derived.Test.YthjkmhdgenmnoaaDoorShaM
import Derived.Test.YthjkmhdgenmnoaaDoorRAes
import Derived.Test.YthjkmhdgenmnoaaDoorRLaw05
import Derived.Test.YthjkmhdgenmnoaaDoorRSeal
namespace Go.Proofs.YthjkmhdgenmnoaaDoor
set_option linter.unusedSimpArgs false
set_option linter.unusedVariables false
set_option linter.unusedSectionVars false
open Go Go.LW

def lethelaw05_SealOpens (key1 : Nat → BitVec 8) (data2 : List Byte) (text3 : List Byte) (r : Bool) : Prop :=
  ∃ x_8 : List Byte, lethelaw05_short data2 200 x_8 ∧
  ∃ x_14 : List Byte, lethelaw05_short text3 512 x_14 ∧
  ∃ x_21 : List Byte, ∃ x_22 : Nat, seal_Seal key1 x_8 x_14 (x_21, x_22) ∧
  ∃ x_31 : List Byte, ∃ x_32 : Nat, seal_Open key1 x_8 x_21 (x_31, x_32) ∧
  ∃ s86 : List Byte, ∃ t87 : Bool, (
    if x_22 ≠ 0 then (
      s86 = x_21 ∧ t87 = true
    ) else (
      if x_32 ≠ 0 then (
        s86 = x_21 ∧ t87 = true
      ) else (
        ∃ x_94 : Bool, lethelaw05_Eq x_31 x_14 x_94 ∧
        if x_94 = true then (
          ((x_14.length + 32) < 9223372036854775808) ∧
          if x_21.length ≠ (x_14.length + 32) then (
            s86 = x_21 ∧ t87 = true
          ) else (
            ∃ x_101 : Int, seal_Length ((x_14.length : Nat) : Int) x_101 ∧
            s86 = x_21 ∧ t87 = (decide (x_101 ≠ ((x_21.length : Nat) : Int)))
          )
        ) else (
          s86 = x_21 ∧ t87 = true
        )
      )
    )
  ) ∧
  if t87 = true then (
    r = false
  ) else (
    ((∃ x_111 : List Byte, ∃ x_112 : List Byte, ∃ x_113 : Nat → BitVec 8, ∃ x_114 : Bool, lethelaw05_three key1 (.inl (x_111, x_112, x_113, x_114)) ∧
      if x_114 = true then (
        ((∃ x_137 : Nat, aes_New x_111 (.inl x_137) ∧
          if x_137 ≠ 0 then (
            r = false
          ) else (
            r = false
          )
        ) ∨ (∃ x_138 : Nat → BitVec 8, ∃ x_139 : Nat → BitVec 8, ∃ x_140 : Nat → BitVec 8, ∃ x_141 : Nat → BitVec 8, ∃ x_142 : Nat, aes_New x_111 (.inr (x_138, x_139, x_140, x_141, x_142)) ∧
          if x_142 ≠ 0 then (
            r = false
          ) else (
            ∃ x_167 : List Byte, aes_Cipher_Stream x_138 x_139 x_140 x_141 x_113 x_14 x_167 ∧
            (0 + x_167.length ≤ 140737488355328) ∧
            ∃ x_179 : List Byte, lethelaw05_tag x_112 x_8 x_167 x_179 ∧
            ((([] : List Byte) ++ x_167).length + x_179.length ≤ 140737488355328) ∧
            ∃ x_189 : Bool, lethelaw05_Eq s86 ((([] : List Byte) ++ x_167) ++ x_179) x_189 ∧
            r = x_189
          )
        ))
      ) else (
        r = false
      )
    ) ∨ (∃ x_115 : List Byte, ∃ x_116 : List Byte, ∃ x_117 : Nat → BitVec 8, ∃ x_118 : Bool, lethelaw05_three key1 (.inr (x_115, x_116, x_117, x_118)) ∧
      if x_118 = true then (
        ((∃ x_209 : Nat, aes_New x_115 (.inl x_209) ∧
          if x_209 ≠ 0 then (
            r = false
          ) else (
            r = false
          )
        ) ∨ (∃ x_210 : Nat → BitVec 8, ∃ x_211 : Nat → BitVec 8, ∃ x_212 : Nat → BitVec 8, ∃ x_213 : Nat → BitVec 8, ∃ x_214 : Nat, aes_New x_115 (.inr (x_210, x_211, x_212, x_213, x_214)) ∧
          if x_214 ≠ 0 then (
            r = false
          ) else (
            ∃ x_239 : List Byte, aes_Cipher_Stream x_210 x_211 x_212 x_213 x_117 x_14 x_239 ∧
            (0 + x_239.length ≤ 140737488355328) ∧
            ∃ x_251 : List Byte, lethelaw05_tag x_116 x_8 x_239 x_251 ∧
            ((([] : List Byte) ++ x_239).length + x_251.length ≤ 140737488355328) ∧
            ∃ x_261 : Bool, lethelaw05_Eq s86 ((([] : List Byte) ++ x_239) ++ x_251) x_261 ∧
            r = x_261
          )
        ))
      ) else (
        r = false
      )
    ))
  )
end Go.Proofs.YthjkmhdgenmnoaaDoor
