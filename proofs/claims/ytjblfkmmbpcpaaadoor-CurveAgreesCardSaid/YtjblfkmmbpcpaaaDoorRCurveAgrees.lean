/-
  RELATIONS of the package's functions, printed by this session's own program (auto.py).
-/
import Derived.Test.YtjblfkmmbpcpaaaDoorLx7
import Derived.Test.YtjblfkmmbpcpaaaDoorFldT
import Derived.Test.YtjblfkmmbpcpaaaDoorRCurve
import Derived.Test.YtjblfkmmbpcpaaaDoorRLaw07
namespace Go.Proofs.YtjblfkmmbpcpaaaDoor
set_option linter.unusedSimpArgs false
set_option linter.unusedVariables false
set_option linter.unusedSectionVars false
open Go Go.LW

def lethelaw07_CurveAgrees (a1 : Nat → BitVec 8) (b2 : Nat → BitVec 8) (r : Bool) : Prop :=
  ∃ x_8 : Nat → BitVec 8, ∃ x_9 : Nat → BitVec 8, ∃ x_10 : Nat, curve_NewPair (dl 32 a1) (x_8, x_9, x_10) ∧
  ∃ x_16 : Nat → BitVec 8, ∃ x_17 : Nat → BitVec 8, ∃ x_18 : Nat, curve_NewPair (dl 32 b2) (x_16, x_17, x_18) ∧
  ∃ x_24 : Nat → BitVec 8, ∃ x_25 : Nat, curve_Shared x_8 x_17 (x_24, x_25) ∧
  ∃ x_31 : Nat → BitVec 8, ∃ x_32 : Nat, curve_Shared x_16 x_9 (x_31, x_32) ∧
  ∃ x_40 : Nat → BitVec 8, curve_Public b2 x_40 ∧
  ∃ x_44 : Nat → BitVec 8, curve_Times a1 x_40 x_44 ∧
  ∃ x_50 : Bool, lethelaw07_fixed x_50 ∧
  if x_50 = true then (
    if x_10 = 0 then (
      if x_18 = 0 then (
        if x_25 = 0 then (
          if x_32 = 0 then (
            if (eqB 32 x_24 x_31) = true then (
              if (eqB 32 x_24 x_44) = true then (
                ∃ x_62 : Nat → BitVec 8, curve_Clamp a1 x_62 ∧
                if (eqB 32 x_8 x_62) = true then (
                  ∃ x_66 : Nat → BitVec 8, curve_Public a1 x_66 ∧
                  r = (eqB 32 x_9 x_66)
                ) else (
                  r = false
                )
              ) else (
                r = false
              )
            ) else (
              r = false
            )
          ) else (
            r = false
          )
        ) else (
          r = false
        )
      ) else (
        r = false
      )
    ) else (
      r = false
    )
  ) else (
    r = false
  )
end Go.Proofs.YtjblfkmmbpcpaaaDoor
