/-
  RELATIONS of the package's functions, printed by this session's own program (auto.py).
-/
import Derived.Test.YthjkmhdgenmnoaaDoorLx6
import Derived.Test.YthjkmhdgenmnoaaDoorShaM
import Derived.Test.YthjkmhdgenmnoaaDoorRLaw05
import Derived.Test.YthjkmhdgenmnoaaDoorRSeal
namespace Go.Proofs.YthjkmhdgenmnoaaDoor
set_option linter.unusedSimpArgs false
set_option linter.unusedVariables false
set_option linter.unusedSectionVars false
open Go Go.LW

def lethelaw05_SealBounds (key1 : Nat → BitVec 8) (text2 : Int) (data3 : Int) (r : Bool) : Prop :=
  ∃ x_8 : Int, lethelaw05_rest text2 30 x_8 ∧
  (-9223372036854775808 ≤ (500 + x_8) ∧ (500 + x_8) ≤ 9223372036854775807) ∧
  ∃ x_13 : Int, lethelaw05_rest data3 30 x_13 ∧
  (-9223372036854775808 ≤ (65520 + x_13) ∧ (65520 + x_13) ≤ 9223372036854775807) ∧
  ∃ s55 : List Byte, ∃ e_56 : Nat, (
    (0 ≤ (65520 + x_13)) ∧
    ((65520 + x_13).toNat ≤ (65520 + x_13).toNat ∧ (65520 + x_13).toNat ≤ 281474976710656) ∧
    (0 ≤ (500 + x_8)) ∧
    ((500 + x_8).toNat ≤ (500 + x_8).toNat ∧ (500 + x_8).toNat ≤ 281474976710656) ∧
    ∃ x_66 : List Byte, ∃ x_67 : Nat, seal_Seal key1 (List.replicate ((65520 + x_13).toNat) 0#8) (List.replicate ((500 + x_8).toNat) 0#8) (x_66, x_67) ∧
    s55 = x_66 ∧ e_56 = x_67
  ) ∧
  ∃ t136 : Bool, (
    if (500 + x_8) ≤ 512 then (
      if ((decide (e_56 = 0)) != (decide ((65520 + x_13) ≤ 65535))) = true then (
        t136 = true
      ) else (
        if e_56 ≠ 0 then (
          if e_56 ≠ 5 then (
            t136 = true
          ) else (
            t136 = (decide (s55.length ≠ 0))
          )
        ) else (
          t136 = false
        )
      )
    ) else (
      if ((decide (e_56 = 0)) != false) = true then (
        t136 = true
      ) else (
        if e_56 ≠ 0 then (
          if e_56 ≠ 5 then (
            t136 = true
          ) else (
            t136 = (decide (s55.length ≠ 0))
          )
        ) else (
          t136 = false
        )
      )
    )
  ) ∧
  if t136 = true then (
    r = false
  ) else (
    ∃ f197 : Nat, (
      (-9223372036854775808 ≤ ((500 + x_8) + 32) ∧ ((500 + x_8) + 32) ≤ 9223372036854775807) ∧
      (0 ≤ (65520 + x_13)) ∧
      ((65520 + x_13).toNat ≤ (65520 + x_13).toNat ∧ (65520 + x_13).toNat ≤ 281474976710656) ∧
      (0 ≤ ((500 + x_8) + 32)) ∧
      (((500 + x_8) + 32).toNat ≤ ((500 + x_8) + 32).toNat ∧ ((500 + x_8) + 32).toNat ≤ 281474976710656) ∧
      ∃ x_208 : List Byte, ∃ x_209 : Nat, seal_Open key1 (List.replicate ((65520 + x_13).toNat) 0#8) (List.replicate (((500 + x_8) + 32).toNat) 0#8) (x_208, x_209) ∧
      f197 = x_209
    ) ∧
    ∃ ok248 : Bool, (
      if 512 < (500 + x_8) then (
        if ((decide (f197 = 5)) != true) = true then (
          ok248 = false ∧ r = false
        ) else (
          ok248 = true
        )
      ) else (
        if ((decide (f197 = 5)) != (decide (65535 < (65520 + x_13)))) = true then (
          ok248 = false ∧ r = false
        ) else (
          ok248 = true
        )
      )
    ) ∧
    (ok248 = true →
    ∃ g_295 : Nat, (
      (0 ≤ (65520 + x_13)) ∧
      ((65520 + x_13).toNat ≤ (65520 + x_13).toNat ∧ (65520 + x_13).toNat ≤ 281474976710656) ∧
      ∃ x_303 : List Byte, ∃ x_304 : Nat, seal_Open key1 (List.replicate ((65520 + x_13).toNat) 0#8) (List.replicate 31 0#8) (x_303, x_304) ∧
      g_295 = x_304
    ) ∧
    ∃ want341 : Int, (
      if 0 ≤ text2 then (
        if text2 ≤ 512 then (
          want341 = (text2 + 32)
        ) else (
          want341 = 0
        )
      ) else (
        want341 = 0
      )
    ) ∧
    if g_295 = 10 then (
      ∃ x_350 : Int, seal_Length text2 x_350 ∧
      r = (decide (x_350 = want341))
    ) else (
      r = false
    )
    )
  )
end Go.Proofs.YthjkmhdgenmnoaaDoor
