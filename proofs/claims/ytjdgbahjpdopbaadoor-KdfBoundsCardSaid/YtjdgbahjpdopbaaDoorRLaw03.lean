/-
  RELATIONS of the package's functions, printed by this session's own program (auto.py).
-/
import Derived.Test.YtjdgbahjpdopbaaDoorLx9
import Derived.Test.YtjdgbahjpdopbaaDoorShaM
import Derived.Test.YtjdgbahjpdopbaaDoorRKdf
namespace Go.Proofs.YtjdgbahjpdopbaaDoor
set_option linter.unusedSimpArgs false
set_option linter.unusedVariables false
set_option linter.unusedSectionVars false
open Go Go.LW

def lethelaw03_awake  (r : Bool) : Prop :=
  ∃ x_8 : Nat → BitVec 8, kdf_Mac (dl 4 (lit ([74#8, 101#8, 102#8, 101#8] : List Byte))) ([(dl 28 (lit ([119#8, 104#8, 97#8, 116#8, 32#8, 100#8, 111#8, 32#8, 121#8, 97#8, 32#8, 119#8, 97#8, 110#8, 116#8, 32#8, 102#8, 111#8, 114#8, 32#8, 110#8, 111#8, 116#8, 104#8, 105#8, 110#8, 103#8, 63#8] : List Byte)))] : List (List Byte)) x_8 ∧
  if (x_8 0) = 91#8 then (
    if (x_8 1) = 220#8 then (
      r = (decide ((x_8 31) = 67#8))
    ) else (
      r = false
    )
  ) else (
    r = false
  )

def lethelaw03_short (b1 : List Byte) (r : (List Byte)) : Prop :=
  if 400 < b1.length then (
    (0 ≤ 400 ∧ 400 ≤ b1.length) ∧
    r = (seg b1 0 400)
  ) else (
    r = b1
  )

def lethelaw03_rest (n_1 : Int) (m2 : Int) (r : Int) : Prop :=
  (m2 ≠ 0) ∧
  (-9223372036854775808 ≤ ((n_1.tmod m2) + m2) ∧ ((n_1.tmod m2) + m2) ≤ 9223372036854775807) ∧
  (m2 ≠ 0) ∧
  r = (((n_1.tmod m2) + m2).tmod m2)

def lethelaw03_Eq (a1 : List Byte) (b2 : List Byte) (r : Bool) : Prop :=
  r = (decide (a1 = b2))
end Go.Proofs.YtjdgbahjpdopbaaDoor
