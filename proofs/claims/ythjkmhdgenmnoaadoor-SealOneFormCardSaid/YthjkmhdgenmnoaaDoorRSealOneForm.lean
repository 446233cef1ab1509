/-
  RELATIONS of the package's functions, printed by this session's own program (auto.py).
-/
import Derived.Test.YthjkmhdgenmnoaaDoorLx6
import Derived.Test.YthjkmhdgenmnoaaDoorShaM
import Derived.Test.YthjkmhdgenmnoaaDoorRLaw05
import Derived.Test.YthjkmhdgenmnoaaDoorRSeal
namespace Go.Proofs.YthjkmhdgenmnoaaDoor
set_option linter.unusedSimpArgs false
set_option linter.unusedVariables false
set_option linter.unusedSectionVars false
open Go Go.LW

def lethelaw05_SealOneForm (key1 : Nat → BitVec 8) (data2 : List Byte) (sealed3 : List Byte) (r : Bool) : Prop :=
  ∃ x_8 : List Byte, lethelaw05_short data2 200 x_8 ∧
  ∃ x_15 : List Byte, ∃ x_16 : Nat, seal_Open key1 x_8 sealed3 (x_15, x_16) ∧
  ∃ x_26 : List Byte, ∃ x_27 : Nat, seal_Seal key1 x_8 (dl 1 (lit ([120#8] : List Byte))) (x_26, x_27) ∧
  if x_27 ≠ 0 then (
    r = false
  ) else (
    if x_26.length ≠ 33 then (
      r = false
    ) else (
      if sealed3.length < 32 then (
        if x_16 = 10 then (
          r = (decide (x_15.length = 0))
        ) else (
          r = false
        )
      ) else (
        if 544 < sealed3.length then (
          if x_16 = 5 then (
            r = (decide (x_15.length = 0))
          ) else (
            r = false
          )
        ) else (
          if x_16 ≠ 0 then (
            if x_16 = 50 then (
              r = (decide (x_15.length = 0))
            ) else (
              r = false
            )
          ) else (
            ∃ x_68 : List Byte, ∃ x_69 : Nat, seal_Seal key1 x_8 x_15 (x_68, x_69) ∧
            if x_69 = 0 then (
              ∃ x_79 : Bool, lethelaw05_Eq x_68 sealed3 x_79 ∧
              r = x_79
            ) else (
              r = false
            )
          )
        )
      )
    )
  )
end Go.Proofs.YthjkmhdgenmnoaaDoor
