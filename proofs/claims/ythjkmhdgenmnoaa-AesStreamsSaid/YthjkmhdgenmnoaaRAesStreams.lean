/-
  RELATIONS of the package's functions, printed by this session's own program (auto.py).
-/
import Derived.Test.YthjkmhdgenmnoaaLx3
import Derived.Test.YthjkmhdgenmnoaaRAes
import Derived.Test.YthjkmhdgenmnoaaRLaw04
namespace Go.Proofs.Ythjkmhdgenmnoaa
set_option linter.unusedSimpArgs false
set_option linter.unusedVariables false
set_option linter.unusedSectionVars false
open Go Go.LW

def lethelaw04_AesStreams_l0 (first2 : Nat → BitVec 8) (x_11 : Nat → BitVec 8) (x_12 : Nat → BitVec 8) (x_13 : Nat → BitVec 8) (x_14 : Nat → BitVec 8) (x_37 : List Byte) (x_52 : List Byte) (r : Bool) (s : ((List Byte) × Nat)) (o148 : ((List Byte) × Nat) ⊕ (Option (List Byte))) : Prop :=
  match s with
  | (s145, i_146) =>
    if i_146 < x_37.length then (
      (i_146 < 9223372036854775808) ∧
      ∃ x_158 : Nat → BitVec 8, aes_Next first2 (BitVec.ofNat 64 (i_146 / 16)) x_158 ∧
      ∃ x_162 : Nat → BitVec 8, aes_Cipher_Encrypt x_11 x_12 x_13 x_14 x_158 x_162 ∧
      (i_146 < x_52.length) ∧
      (i_146 < x_37.length) ∧
      if (lit s145 i_146) ≠ ((lit x_37 i_146) ^^^ (x_162 (i_146 % 16))) then (
        o148 = .inr none ∧ r = false
      ) else (
        ((i_146 + 1) < 9223372036854775808) ∧
        o148 = .inl (s145, (i_146 + 1))
      )
    ) else (
      o148 = .inr (some s145)
    )
def lethelaw04_AesStreams (key1 : Nat → BitVec 8) (first2 : Nat → BitVec 8) (a3 : List Byte) (b4 : List Byte) (n_5 : BitVec 64) (r : Bool) : Prop :=
  ((lethelaw04_of key1 (.inl ()) ∧
    ∃ x_18 : List Byte, lethelaw04_short a3 200 x_18 ∧
    ∃ x_24 : List Byte, lethelaw04_short b4 200 x_24 ∧
    r = false
  ) ∨ (∃ x_11 : Nat → BitVec 8, ∃ x_12 : Nat → BitVec 8, ∃ x_13 : Nat → BitVec 8, ∃ x_14 : Nat → BitVec 8, lethelaw04_of key1 (.inr (x_11, x_12, x_13, x_14)) ∧
    ∃ x_37 : List Byte, lethelaw04_short a3 200 x_37 ∧
    ∃ x_43 : List Byte, lethelaw04_short b4 200 x_43 ∧
    ∃ x_52 : List Byte, aes_Cipher_Stream x_11 x_12 x_13 x_14 first2 x_37 x_52 ∧
    if x_52.length ≠ x_37.length then (
      r = false
    ) else (
      ∃ x_83 : List Byte, aes_Cipher_Stream x_11 x_12 x_13 x_14 first2 x_52 x_83 ∧
      ∃ x_91 : Bool, lethelaw04_Eq x_83 x_37 x_91 ∧
      if x_91 = true then (
        ∃ x148 : Option (List Byte), Iter (lethelaw04_AesStreams_l0 first2 x_11 x_12 x_13 x_14 x_37 x_52 r) (x_52, 0) x148 ∧ (∀ (s147 : List Byte), x148 = some s147 →
        (x_37.length < 9223372036854775808) ∧
        ((16 * (x_37.length / 16)) < 9223372036854775808) ∧
        (0 ≤ (16 * (x_37.length / 16)) ∧ (16 * (x_37.length / 16)) ≤ x_37.length) ∧
        (0 + (seg x_37 0 (16 * (x_37.length / 16))).length ≤ 140737488355328) ∧
        ((([] : List Byte) ++ (seg x_37 0 (16 * (x_37.length / 16)))).length + x_43.length ≤ 140737488355328) ∧
        ∃ x_192 : List Byte, aes_Cipher_Stream x_11 x_12 x_13 x_14 first2 ((([] : List Byte) ++ (seg x_37 0 (16 * (x_37.length / 16)))) ++ x_43) x_192 ∧
        ((16 * (x_37.length / 16)) < 9223372036854775808) ∧
        (0 ≤ (16 * (x_37.length / 16)) ∧ (16 * (x_37.length / 16)) ≤ x_52.length) ∧
        (0 + ((16 * (x_37.length / 16)) - 0) ≤ 140737488355328) ∧
        ∃ x_209 : Nat → BitVec 8, aes_Next first2 (BitVec.ofNat 64 (x_37.length / 16)) x_209 ∧
        ∃ x_213 : List Byte, aes_Cipher_Stream x_11 x_12 x_13 x_14 x_209 x_43 x_213 ∧
        ((([] : List Byte) ++ (seg s147 0 (16 * (x_37.length / 16)))).length + x_213.length ≤ 140737488355328) ∧
        ∃ x_223 : Bool, lethelaw04_Eq x_192 ((([] : List Byte) ++ (seg s147 0 (16 * (x_37.length / 16)))) ++ x_213) x_223 ∧
        if x_223 = true then (
          ∃ x_233 : Nat → BitVec 8, aes_Next first2 (n_5 / (2#64)) x_233 ∧
          ∃ x_236 : Nat → BitVec 8, aes_Next x_233 (n_5 - (n_5 / (2#64))) x_236 ∧
          ∃ x_239 : Nat → BitVec 8, aes_Next first2 n_5 x_239 ∧
          if (eqB 16 x_236 x_239) = true then (
            ∃ x_243 : Nat → BitVec 8, aes_Next (lit [255#8, 255#8, 255#8, 255#8, 255#8, 255#8, 255#8, 255#8, 255#8, 255#8, 255#8, 255#8, 255#8, 255#8, 255#8, 255#8]) (1#64) x_243 ∧
            if (eqB 16 x_243 (fun _ => 0#8)) = true then (
              ∃ x_247 : Nat → BitVec 8, aes_Next first2 (0#64) x_247 ∧
              r = (eqB 16 x_247 first2)
            ) else (
              r = false
            )
          ) else (
            r = false
          )
        ) else (
          r = false
        )
        )
      ) else (
        r = false
      )
    )
  ))
end Go.Proofs.Ythjkmhdgenmnoaa
