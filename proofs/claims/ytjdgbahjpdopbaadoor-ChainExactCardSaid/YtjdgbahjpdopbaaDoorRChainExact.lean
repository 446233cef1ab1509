/-
  RELATIONS of the package's functions, printed by this session's own program (auto.py).
-/
import Derived.Test.YtjdgbahjpdopbaaDoorLx9
import Derived.Test.YtjdgbahjpdopbaaDoorShaM
import Derived.Test.YtjdgbahjpdopbaaDoorRChain
import Derived.Test.YtjdgbahjpdopbaaDoorRLaw13
import Derived.Test.YtjdgbahjpdopbaaDoorRRef13
namespace Go.Proofs.YtjdgbahjpdopbaaDoor
set_option linter.unusedSimpArgs false
set_option linter.unusedVariables false
set_option linter.unusedSectionVars false
open Go Go.LW

def lethelaw13_ChainExact (a1 : Nat → BitVec 8) (b2 : Nat → BitVec 8) (n_3 : Int) (r : Bool) : Prop :=
  ∃ x_9 : Nat → BitVec 8, ∃ x_10 : Nat → BitVec 8, chain_Root a1 b2 (x_9, x_10) ∧
  ∃ x_18 : Nat → BitVec 8, ∃ x_19 : Nat → BitVec 8, letheref13_Root a1 b2 (x_18, x_19) ∧
  ∃ x_27 : Nat → BitVec 8, ∃ x_28 : Nat → BitVec 8, chain_Step a1 (x_27, x_28) ∧
  ∃ x_36 : Nat → BitVec 8, ∃ x_37 : Nat → BitVec 8, letheref13_Step a1 (x_36, x_37) ∧
  ∃ x_45 : Nat → BitVec 8, ∃ x_46 : List (Nat → BitVec 8), ∃ x_47 : Nat, chain_Ahead b2 n_3 (x_45, x_46, x_47) ∧
  ∃ x_58 : Nat → BitVec 8, ∃ x_59 : List (Nat → BitVec 8), ∃ x_60 : Nat, letheref13_Ahead b2 n_3 (x_58, x_59, x_60) ∧
  if (eqB 32 x_9 x_18) = true then (
    if (eqB 32 x_10 x_19) = true then (
      if (eqB 32 x_27 x_36) = true then (
        if (eqB 32 x_28 x_37) = true then (
          if (eqB 32 x_45 x_58) = true then (
            if x_47 = x_60 then (
              ∃ x_77 : Bool, lethelaw13_sameKeys x_46 x_59 x_77 ∧
              r = x_77
            ) else (
              r = false
            )
          ) else (
            r = false
          )
        ) else (
          r = false
        )
      ) else (
        r = false
      )
    ) else (
      r = false
    )
  ) else (
    r = false
  )
end Go.Proofs.YtjdgbahjpdopbaaDoor
