/-
  RELATIONS of the package's functions, printed by this session's own program (auto.py).
-/
import Derived.Test.YthjkmhdgenmnoaaDoorLx6
import Derived.Test.YthjkmhdgenmnoaaDoorShaM
import Derived.Test.YthjkmhdgenmnoaaDoorRLaw05
import Derived.Test.YthjkmhdgenmnoaaDoorRSeal
namespace Go.Proofs.YthjkmhdgenmnoaaDoor
set_option linter.unusedSimpArgs false
set_option linter.unusedVariables false
set_option linter.unusedSectionVars false
open Go Go.LW

def lethelaw05_SealStreams_l0 (x_9 : List Byte) (x_15 : List Byte) (x_28 : List Byte) (x_38 : List Byte) (r : Bool) (s : ((List Byte) × (List Byte) × Nat)) (o124 : ((List Byte) × (List Byte) × Nat) ⊕ (Option Unit)) : Prop :=
  match s with
  | (s121, t122, i_123) =>
    if i_123 < x_9.length then (
      if i_123 < x_15.length then (
        (i_123 < x_28.length) ∧
        (i_123 < x_38.length) ∧
        (i_123 < x_9.length) ∧
        (i_123 < x_15.length) ∧
        if ((lit s121 i_123) ^^^ (lit t122 i_123)) ≠ ((lit x_9 i_123) ^^^ (lit x_15 i_123)) then (
          o124 = .inr none ∧ r = false
        ) else (
          ((i_123 + 1) < 9223372036854775808) ∧
          o124 = .inl (s121, t122, (i_123 + 1))
        )
      ) else (
        o124 = .inr (some ())
      )
    ) else (
      o124 = .inr (some ())
    )
def lethelaw05_SealStreams (key1 : Nat → BitVec 8) (a2 : List Byte) (b3 : List Byte) (data4 : List Byte) (r : Bool) : Prop :=
  ∃ x_9 : List Byte, lethelaw05_short a2 512 x_9 ∧
  ∃ x_15 : List Byte, lethelaw05_short b3 512 x_15 ∧
  ∃ x_21 : List Byte, lethelaw05_short data4 200 x_21 ∧
  ∃ x_28 : List Byte, ∃ x_29 : Nat, seal_Seal key1 x_21 x_9 (x_28, x_29) ∧
  ∃ x_38 : List Byte, ∃ x_39 : Nat, seal_Seal key1 ([] : List Byte) x_15 (x_38, x_39) ∧
  if x_29 ≠ 0 then (
    r = false
  ) else (
    if x_39 ≠ 0 then (
      r = false
    ) else (
      ((x_9.length + 32) < 9223372036854775808) ∧
      if x_28.length ≠ (x_9.length + 32) then (
        r = false
      ) else (
        ((x_15.length + 32) < 9223372036854775808) ∧
        if x_38.length ≠ (x_15.length + 32) then (
          r = false
        ) else (
          ∃ x124 : Option Unit, Iter (lethelaw05_SealStreams_l0 x_9 x_15 x_28 x_38 r) (x_28, x_38, 0) x124 ∧ (x124 = some () →
          r = true
          )
        )
      )
    )
  )
end Go.Proofs.YthjkmhdgenmnoaaDoor
