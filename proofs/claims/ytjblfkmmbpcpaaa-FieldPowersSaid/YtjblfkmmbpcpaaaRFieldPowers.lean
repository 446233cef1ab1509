/-
  RELATIONS of the package's functions, printed by this session's own program (auto.py).
-/
import Derived.Test.YtjblfkmmbpcpaaaLx6
import Derived.Test.YtjblfkmmbpcpaaaRField
namespace Go.Proofs.Ytjblfkmmbpcpaaa
set_option linter.unusedSimpArgs false
set_option linter.unusedVariables false
set_option linter.unusedSectionVars false
open Go Go.LW

def lethelaw06_FieldPowers_l0 (n_3 : BitVec 8) (m142 : Nat → BitVec 64) (s : (Nat × (Nat → BitVec 64))) (o319 : (Nat × (Nat → BitVec 64)) ⊕ (Nat → BitVec 64)) : Prop :=
  match s with
  | (i_316, m317) =>
    if i_316 < n_3.toNat then (
      ∃ x_326 : Nat → BitVec 64, field_Elem_Mul m317 m142 x_326 ∧
      o319 = .inl ((i_316 + 1), x_326)
    ) else (
      o319 = .inr m317
    )
def lethelaw06_FieldPowers (x_1 : Nat → BitVec 8) (y2 : Nat → BitVec 8) (n_3 : BitVec 8) (k4 : Nat → BitVec 8) (r : Bool) : Prop :=
  ∃ m142 : Nat → BitVec 64, ∃ m144 : Nat → BitVec 64, (
    ∃ x_148 : Nat → BitVec 64, field_Read x_1 x_148 ∧
    ∃ x_151 : Nat → BitVec 64, field_Read y2 x_151 ∧
    ∃ x_163 : Nat → BitVec 64, field_Read y2 x_163 ∧
    ∃ x_170 : Nat → BitVec 64, field_Read y2 x_170 ∧
    ∃ x_176 : Nat → BitVec 64, field_Read y2 x_176 ∧
    ∃ x_183 : Nat → BitVec 64, field_Read y2 x_183 ∧
    m142 = x_148 ∧ m144 = x_183
  ) ∧
  ∃ x_292 : Nat → BitVec 64, field_Small (1#32) x_292 ∧
  ∃ m318 : Nat → BitVec 64, Iter (lethelaw06_FieldPowers_l0 n_3 m142) (0, x_292) m318 ∧
  ∃ x_364 : Nat → BitVec 64, field_Elem_Pow m142 (upd (fun _ => 0#8) 0 n_3) x_364 ∧
  ∃ x_367 : Bool, field_Elem_Equal x_364 m318 x_367 ∧
  if x_367 = true then (
    ∃ x_371 : Nat → BitVec 64, field_Elem_Mul m142 m144 x_371 ∧
    ∃ x_374 : Nat → BitVec 64, field_Elem_Pow x_371 k4 x_374 ∧
    ∃ x_377 : Nat → BitVec 64, field_Elem_Pow m142 k4 x_377 ∧
    ∃ x_380 : Nat → BitVec 64, field_Elem_Pow m144 k4 x_380 ∧
    ∃ x_383 : Nat → BitVec 64, field_Elem_Mul x_377 x_380 x_383 ∧
    ∃ x_386 : Bool, field_Elem_Equal x_374 x_383 x_386 ∧
    if x_386 = true then (
      ∃ x_396 : Nat → BitVec 64, field_Elem_Pow m142 (upd k4 31 ((k4 31) &&& (127#8))) x_396 ∧
      ∃ m411 : Nat → BitVec 64, (
        if (127#8).toNat < (k4 31).toNat then (
          ∃ x_417 : Nat → BitVec 64, field_Elem_Pow m142 (upd (fun _ => 0#8) 0 (20#8)) x_417 ∧
          ∃ x_420 : Nat → BitVec 64, field_Elem_Mul x_396 x_417 x_420 ∧
          m411 = x_420
        ) else (
          m411 = x_396
        )
      ) ∧
      ∃ x_429 : Nat → BitVec 64, field_Elem_Pow m142 k4 x_429 ∧
      ∃ x_432 : Bool, field_Elem_Equal x_429 m411 x_432 ∧
      r = x_432
    ) else (
      r = false
    )
  ) else (
    r = false
  )
end Go.Proofs.Ytjblfkmmbpcpaaa
