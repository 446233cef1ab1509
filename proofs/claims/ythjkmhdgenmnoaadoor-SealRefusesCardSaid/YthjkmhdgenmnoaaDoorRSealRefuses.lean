/-
  RELATIONS of the package's functions, printed by this session's own program (auto.py).
-/
import Derived.Test.YthjkmhdgenmnoaaDoorLx6
import Derived.Test.YthjkmhdgenmnoaaDoorShaM
import Derived.Test.YthjkmhdgenmnoaaDoorRLaw05
import Derived.Test.YthjkmhdgenmnoaaDoorRSeal
namespace Go.Proofs.YthjkmhdgenmnoaaDoor
set_option linter.unusedSimpArgs false
set_option linter.unusedVariables false
set_option linter.unusedSectionVars false
open Go Go.LW

def lethelaw05_SealRefuses (key1 : Nat → BitVec 8) (data2 : List Byte) (text3 : List Byte) (other4 : Nat → BitVec 8) (odd5 : List Byte) (at_6 : Int) (by_7 : Int) (r : Bool) : Prop :=
  ∃ x_13 : List Byte, lethelaw05_short data2 200 x_13 ∧
  ∃ x_19 : List Byte, lethelaw05_short text3 512 x_19 ∧
  ∃ x_25 : List Byte, lethelaw05_short odd5 200 x_25 ∧
  ∃ x_32 : List Byte, ∃ x_33 : Nat, seal_Seal key1 x_13 x_19 (x_32, x_33) ∧
  if x_33 ≠ 0 then (
    r = false
  ) else (
    if x_32.length < 32 then (
      r = false
    ) else (
      (0 + x_32.length ≤ 140737488355328) ∧
      ∃ x_59 : Int, lethelaw05_rest at_6 (((([] : List Byte) ++ x_32).length : Nat) : Int) x_59 ∧
      (0 ≤ x_59 ∧ x_59 < (([] : List Byte) ++ x_32).length) ∧
      ∃ x_66 : Int, lethelaw05_rest by_7 255 x_66 ∧
      (-9223372036854775808 ≤ (1 + x_66) ∧ (1 + x_66) ≤ 9223372036854775807) ∧
      (0 ≤ x_59 ∧ x_59 < (([] : List Byte) ++ x_32).length) ∧
      ∃ x_73 : List Byte, ∃ x_74 : Nat, seal_Open key1 x_13 ((([] : List Byte) ++ x_32).set x_59.toNat ((lit (([] : List Byte) ++ x_32) x_59.toNat) ^^^ (BitVec.ofInt 8 (1 + x_66)))) (x_73, x_74) ∧
      ∃ ok88 : Bool, ∃ s86 : List Byte, ∃ b87 : List Byte, (
        if ((x_19.length : Nat) : Int) ≤ x_59 then (
          if x_74 ≠ 50 then (
            ok88 = false ∧ r = false
          ) else (
            ok88 = true ∧ s86 = x_32 ∧ b87 = ((([] : List Byte) ++ x_32).set x_59.toNat ((lit (([] : List Byte) ++ x_32) x_59.toNat) ^^^ (BitVec.ofInt 8 (1 + x_66))))
          )
        ) else (
          ok88 = true ∧ s86 = x_32 ∧ b87 = ((([] : List Byte) ++ x_32).set x_59.toNat ((lit (([] : List Byte) ++ x_32) x_59.toNat) ^^^ (BitVec.ofInt 8 (1 + x_66))))
        )
      ) ∧
      (ok88 = true →
      (-9223372036854775808 ≤ (((x_32.length : Nat) : Int) - 32) ∧ (((x_32.length : Nat) : Int) - 32) ≤ 9223372036854775807) ∧
      ((∃ x_101 : List Byte, ∃ x_102 : List Byte, ∃ x_103 : Nat → BitVec 8, ∃ x_104 : Bool, lethelaw05_three key1 (.inl (x_101, x_102, x_103, x_104)) ∧
        ∃ ok151 : Bool, ∃ s149 : List Byte, ∃ t150 : List Byte, (
          if x_104 = true then (
            (0 ≤ (((x_32.length : Nat) : Int) - 32)) ∧
            (0 ≤ (((x_32.length : Nat) : Int) - 32).toNat ∧ (((x_32.length : Nat) : Int) - 32).toNat ≤ (([] : List Byte) ++ x_32).length) ∧
            (0 ≤ (((x_32.length : Nat) : Int) - 32)) ∧
            ((((x_32.length : Nat) : Int) - 32).toNat ≤ (([] : List Byte) ++ x_32).length ∧ (([] : List Byte) ++ x_32).length ≤ (([] : List Byte) ++ x_32).length) ∧
            ∃ x_162 : List Byte, lethelaw05_tag x_102 x_13 (seg b87 0 ((((x_32.length : Nat) : Int) - 32).toNat)) x_162 ∧
            ∃ x_170 : Bool, lethelaw05_Eq x_162 (seg b87 ((((x_32.length : Nat) : Int) - 32).toNat) ((([] : List Byte) ++ x_32).length)) x_170 ∧
            if ((decide (x_74 = 0)) != x_170) = true then (
              ok151 = false ∧ r = false
            ) else (
              if x_74 ≠ 0 then (
                if x_74 ≠ 50 then (
                  ok151 = false ∧ r = false
                ) else (
                  ok151 = true ∧ s149 = s86 ∧ t150 = x_102
                )
              ) else (
                ok151 = true ∧ s149 = s86 ∧ t150 = x_102
              )
            )
          ) else (
            ok151 = false ∧ r = false
          )
        ) ∧
        (ok151 = true →
        ∃ x_186 : List Byte, ∃ x_187 : Nat, seal_Open key1 x_25 s149 (x_186, x_187) ∧
        ∃ ok220 : Bool, ∃ s219 : List Byte, (
          (0 ≤ (((x_32.length : Nat) : Int) - 32)) ∧
          (0 ≤ (((x_32.length : Nat) : Int) - 32).toNat ∧ (((x_32.length : Nat) : Int) - 32).toNat ≤ x_32.length) ∧
          (0 ≤ (((x_32.length : Nat) : Int) - 32)) ∧
          ((((x_32.length : Nat) : Int) - 32).toNat ≤ x_32.length ∧ x_32.length ≤ x_32.length) ∧
          ∃ x_230 : List Byte, lethelaw05_tag t150 x_25 (seg s149 0 ((((x_32.length : Nat) : Int) - 32).toNat)) x_230 ∧
          ∃ x_238 : Bool, lethelaw05_Eq x_230 (seg s149 ((((x_32.length : Nat) : Int) - 32).toNat) x_32.length) x_238 ∧
          if ((decide (x_187 = 0)) != x_238) = true then (
            ok220 = false ∧ r = false
          ) else (
            if x_187 ≠ 0 then (
              if x_187 ≠ 50 then (
                ok220 = false ∧ r = false
              ) else (
                ok220 = true ∧ s219 = s149
              )
            ) else (
              ok220 = true ∧ s219 = s149
            )
          )
        ) ∧
        (ok220 = true →
        ∃ x_252 : List Byte, ∃ x_253 : Nat, seal_Open other4 x_13 s219 (x_252, x_253) ∧
        ((∃ x_262 : List Byte, ∃ x_263 : List Byte, ∃ x_264 : Nat → BitVec 8, ∃ x_265 : Bool, lethelaw05_three other4 (.inl (x_262, x_263, x_264, x_265)) ∧
          if x_265 = true then (
            (0 ≤ (((x_32.length : Nat) : Int) - 32)) ∧
            (0 ≤ (((x_32.length : Nat) : Int) - 32).toNat ∧ (((x_32.length : Nat) : Int) - 32).toNat ≤ x_32.length) ∧
            (0 ≤ (((x_32.length : Nat) : Int) - 32)) ∧
            ((((x_32.length : Nat) : Int) - 32).toNat ≤ x_32.length ∧ x_32.length ≤ x_32.length) ∧
            ∃ x_293 : List Byte, lethelaw05_tag x_263 x_13 (seg s219 0 ((((x_32.length : Nat) : Int) - 32).toNat)) x_293 ∧
            ∃ x_301 : Bool, lethelaw05_Eq x_293 (seg s219 ((((x_32.length : Nat) : Int) - 32).toNat) x_32.length) x_301 ∧
            if ((decide (x_253 = 0)) == x_301) = true then (
              if x_253 = 0 then (
                r = true
              ) else (
                r = (decide (x_253 = 50))
              )
            ) else (
              r = false
            )
          ) else (
            r = false
          )
        ) ∨ (∃ x_266 : List Byte, ∃ x_267 : List Byte, ∃ x_268 : Nat → BitVec 8, ∃ x_269 : Bool, lethelaw05_three other4 (.inr (x_266, x_267, x_268, x_269)) ∧
          if x_269 = true then (
            (0 ≤ (((x_32.length : Nat) : Int) - 32)) ∧
            (0 ≤ (((x_32.length : Nat) : Int) - 32).toNat ∧ (((x_32.length : Nat) : Int) - 32).toNat ≤ x_32.length) ∧
            (0 ≤ (((x_32.length : Nat) : Int) - 32)) ∧
            ((((x_32.length : Nat) : Int) - 32).toNat ≤ x_32.length ∧ x_32.length ≤ x_32.length) ∧
            ∃ x_329 : List Byte, lethelaw05_tag x_267 x_13 (seg s219 0 ((((x_32.length : Nat) : Int) - 32).toNat)) x_329 ∧
            ∃ x_337 : Bool, lethelaw05_Eq x_329 (seg s219 ((((x_32.length : Nat) : Int) - 32).toNat) x_32.length) x_337 ∧
            if ((decide (x_253 = 0)) == x_337) = true then (
              if x_253 = 0 then (
                r = true
              ) else (
                r = (decide (x_253 = 50))
              )
            ) else (
              r = false
            )
          ) else (
            r = false
          )
        ))
        )
        )
      ) ∨ (∃ x_105 : List Byte, ∃ x_106 : List Byte, ∃ x_107 : Nat → BitVec 8, ∃ x_108 : Bool, lethelaw05_three key1 (.inr (x_105, x_106, x_107, x_108)) ∧
        ∃ ok383 : Bool, ∃ s382 : List Byte, (
          if x_108 = true then (
            (0 ≤ (((x_32.length : Nat) : Int) - 32)) ∧
            (0 ≤ (((x_32.length : Nat) : Int) - 32).toNat ∧ (((x_32.length : Nat) : Int) - 32).toNat ≤ (([] : List Byte) ++ x_32).length) ∧
            (0 ≤ (((x_32.length : Nat) : Int) - 32)) ∧
            ((((x_32.length : Nat) : Int) - 32).toNat ≤ (([] : List Byte) ++ x_32).length ∧ (([] : List Byte) ++ x_32).length ≤ (([] : List Byte) ++ x_32).length) ∧
            ∃ x_394 : List Byte, lethelaw05_tag x_106 x_13 (seg b87 0 ((((x_32.length : Nat) : Int) - 32).toNat)) x_394 ∧
            ∃ x_402 : Bool, lethelaw05_Eq x_394 (seg b87 ((((x_32.length : Nat) : Int) - 32).toNat) ((([] : List Byte) ++ x_32).length)) x_402 ∧
            if ((decide (x_74 = 0)) != x_402) = true then (
              ok383 = false ∧ r = false
            ) else (
              if x_74 ≠ 0 then (
                if x_74 ≠ 50 then (
                  ok383 = false ∧ r = false
                ) else (
                  ok383 = true ∧ s382 = s86
                )
              ) else (
                ok383 = true ∧ s382 = s86
              )
            )
          ) else (
            ok383 = false ∧ r = false
          )
        ) ∧
        (ok383 = true →
        ∃ x_418 : List Byte, ∃ x_419 : Nat, seal_Open key1 x_25 s382 (x_418, x_419) ∧
        ∃ ok452 : Bool, ∃ s451 : List Byte, (
          (0 ≤ (((x_32.length : Nat) : Int) - 32)) ∧
          (0 ≤ (((x_32.length : Nat) : Int) - 32).toNat ∧ (((x_32.length : Nat) : Int) - 32).toNat ≤ x_32.length) ∧
          (0 ≤ (((x_32.length : Nat) : Int) - 32)) ∧
          ((((x_32.length : Nat) : Int) - 32).toNat ≤ x_32.length ∧ x_32.length ≤ x_32.length) ∧
          ∃ x_462 : List Byte, lethelaw05_tag x_106 x_25 (seg s382 0 ((((x_32.length : Nat) : Int) - 32).toNat)) x_462 ∧
          ∃ x_470 : Bool, lethelaw05_Eq x_462 (seg s382 ((((x_32.length : Nat) : Int) - 32).toNat) x_32.length) x_470 ∧
          if ((decide (x_419 = 0)) != x_470) = true then (
            ok452 = false ∧ r = false
          ) else (
            if x_419 ≠ 0 then (
              if x_419 ≠ 50 then (
                ok452 = false ∧ r = false
              ) else (
                ok452 = true ∧ s451 = s382
              )
            ) else (
              ok452 = true ∧ s451 = s382
            )
          )
        ) ∧
        (ok452 = true →
        ∃ x_484 : List Byte, ∃ x_485 : Nat, seal_Open other4 x_13 s451 (x_484, x_485) ∧
        ((∃ x_494 : List Byte, ∃ x_495 : List Byte, ∃ x_496 : Nat → BitVec 8, ∃ x_497 : Bool, lethelaw05_three other4 (.inl (x_494, x_495, x_496, x_497)) ∧
          if x_497 = true then (
            (0 ≤ (((x_32.length : Nat) : Int) - 32)) ∧
            (0 ≤ (((x_32.length : Nat) : Int) - 32).toNat ∧ (((x_32.length : Nat) : Int) - 32).toNat ≤ x_32.length) ∧
            (0 ≤ (((x_32.length : Nat) : Int) - 32)) ∧
            ((((x_32.length : Nat) : Int) - 32).toNat ≤ x_32.length ∧ x_32.length ≤ x_32.length) ∧
            ∃ x_525 : List Byte, lethelaw05_tag x_495 x_13 (seg s451 0 ((((x_32.length : Nat) : Int) - 32).toNat)) x_525 ∧
            ∃ x_533 : Bool, lethelaw05_Eq x_525 (seg s451 ((((x_32.length : Nat) : Int) - 32).toNat) x_32.length) x_533 ∧
            if ((decide (x_485 = 0)) == x_533) = true then (
              if x_485 = 0 then (
                r = true
              ) else (
                r = (decide (x_485 = 50))
              )
            ) else (
              r = false
            )
          ) else (
            r = false
          )
        ) ∨ (∃ x_498 : List Byte, ∃ x_499 : List Byte, ∃ x_500 : Nat → BitVec 8, ∃ x_501 : Bool, lethelaw05_three other4 (.inr (x_498, x_499, x_500, x_501)) ∧
          if x_501 = true then (
            (0 ≤ (((x_32.length : Nat) : Int) - 32)) ∧
            (0 ≤ (((x_32.length : Nat) : Int) - 32).toNat ∧ (((x_32.length : Nat) : Int) - 32).toNat ≤ x_32.length) ∧
            (0 ≤ (((x_32.length : Nat) : Int) - 32)) ∧
            ((((x_32.length : Nat) : Int) - 32).toNat ≤ x_32.length ∧ x_32.length ≤ x_32.length) ∧
            ∃ x_561 : List Byte, lethelaw05_tag x_499 x_13 (seg s451 0 ((((x_32.length : Nat) : Int) - 32).toNat)) x_561 ∧
            ∃ x_569 : Bool, lethelaw05_Eq x_561 (seg s451 ((((x_32.length : Nat) : Int) - 32).toNat) x_32.length) x_569 ∧
            if ((decide (x_485 = 0)) == x_569) = true then (
              if x_485 = 0 then (
                r = true
              ) else (
                r = (decide (x_485 = 50))
              )
            ) else (
              r = false
            )
          ) else (
            r = false
          )
        ))
        )
        )
      ))
      )
    )
  )
end Go.Proofs.YthjkmhdgenmnoaaDoor
