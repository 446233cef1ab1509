/-
  RELATIONS of the package's functions, printed by this session's own program (auto.py).
-/
import Derived.Test.YtbkgblhmlenocaaEd
namespace Go.Proofs.Ytbkgblhmlenocaa
set_option linter.unusedSimpArgs false
set_option linter.unusedVariables false
set_option linter.unusedSectionVars false
open Go Go.LW

def cmp_isNaN_uint32 (x_1 : BitVec 32) (r : Bool) : Prop :=
  r = (decide (x_1 ≠ x_1))

def cmp_Compare_uint32 (x_1 : BitVec 32) (y2 : BitVec 32) (r : Int) : Prop :=
  ∃ x_6 : Bool, cmp_isNaN_uint32 x_1 x_6 ∧
  ∃ x_10 : Bool, cmp_isNaN_uint32 y2 x_10 ∧
  if x_6 = true then (
    if x_10 = true then (
      r = 0
    ) else (
      r = (-1)
    )
  ) else (
    if x_10 = true then (
      r = 1
    ) else (
      if x_1.toNat < y2.toNat then (
        r = (-1)
      ) else (
        if y2.toNat < x_1.toNat then (
          r = 1
        ) else (
          r = 0
        )
      )
    )
  )

def cmp_Or_int_l0 (vals1 : List Int) (r : Int) (t28 : Nat) (o29 : Nat ⊕ (Option Unit)) : Prop :=
  if t28 < vals1.length then (
    (t28 < vals1.length) ∧
    if (vals1.getD t28 (0 : Int)) ≠ 0 then (
      o29 = .inr none ∧ r = (vals1.getD t28 (0 : Int))
    ) else (
      ((t28 + 1) < 9223372036854775808) ∧
      o29 = .inl (t28 + 1)
    )
  ) else (
    o29 = .inr (some ())
  )
def cmp_Or_int (vals1 : List Int) (r : Int) : Prop :=
  ∃ x29 : Option Unit, Iter (cmp_Or_int_l0 vals1 r) 0 x29 ∧ (x29 = some () →
  r = 0
  )
end Go.Proofs.Ytbkgblhmlenocaa
