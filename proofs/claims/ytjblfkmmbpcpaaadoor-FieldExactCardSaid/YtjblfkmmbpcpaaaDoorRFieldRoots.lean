/-
  RELATIONS of the package's functions, printed by this session's own program (auto.py).
-/
import Derived.Test.YtjblfkmmbpcpaaaDoorEb
import Derived.Test.YtjblfkmmbpcpaaaDoorFldT
import Derived.Test.YtjblfkmmbpcpaaaDoorRField
namespace Go.Proofs.YtjblfkmmbpcpaaaDoor
set_option linter.unusedSimpArgs false
set_option linter.unusedVariables false
set_option linter.unusedSectionVars false
open Go Go.LW

def lethelaw06_FieldRoots (x_1 : Nat → BitVec 8) (y2 : Nat → BitVec 8) (r : Bool) : Prop :=
  ∃ x_8 : Nat → BitVec 64, field_Read x_1 x_8 ∧
  ∃ x_14 : Nat → BitVec 64, field_Elem_Square x_8 x_14 ∧
  ∃ x_17 : Nat → BitVec 64, ∃ x_18 : Bool, field_Elem_Root x_14 (x_17, x_18) ∧
  ∃ ok55 : Bool, (
    if x_18 = true then (
      ∃ x_60 : Nat → BitVec 64, field_Elem_Square x_17 x_60 ∧
      ∃ x_63 : Nat → BitVec 64, field_Elem_Square x_8 x_63 ∧
      ∃ x_66 : Bool, field_Elem_Equal x_60 x_63 x_66 ∧
      if x_66 = true then (
        ∃ x_70 : Nat → BitVec 8, field_Elem_Bytes x_17 x_70 ∧
        if ((x_70 0) &&& (1#8)) ≠ 0#8 then (
          ok55 = false ∧ r = false
        ) else (
          ∃ x_76 : Bool, field_Elem_Equal x_17 x_8 x_76 ∧
          if x_76 = true then (
            ok55 = true
          ) else (
            ∃ x_81 : Nat → BitVec 64, field_Elem_Add x_17 x_8 x_81 ∧
            ∃ x_84 : Bool, field_Elem_Equal x_81 (fun _ => 0#64) x_84 ∧
            if x_84 = true then (
              ok55 = true
            ) else (
              ok55 = false ∧ r = false
            )
          )
        )
      ) else (
        ok55 = false ∧ r = false
      )
    ) else (
      ok55 = false ∧ r = false
    )
  ) ∧
  (ok55 = true →
  ∃ x_97 : Nat → BitVec 64, ∃ x_98 : Bool, field_Elem_Root x_8 (x_97, x_98) ∧
  if x_98 = true then (
    ∃ x_108 : Nat → BitVec 64, field_Elem_Square x_97 x_108 ∧
    ∃ x_111 : Bool, field_Elem_Equal x_108 x_8 x_111 ∧
    if x_111 = true then (
      ∃ x_115 : Nat → BitVec 8, field_Elem_Bytes x_97 x_115 ∧
      r = (decide (((x_115 0) &&& (1#8)) = 0#8))
    ) else (
      r = false
    )
  ) else (
    ∃ x_121 : Nat → BitVec 64, field_Read y2 x_121 ∧
    ∃ x_127 : Nat → BitVec 64, ∃ x_128 : Bool, field_Elem_Root x_121 (x_127, x_128) ∧
    ∃ x_134 : Nat → BitVec 64, field_Elem_Mul x_8 x_121 x_134 ∧
    ∃ x_137 : Nat → BitVec 64, ∃ x_138 : Bool, field_Elem_Root x_134 (x_137, x_138) ∧
    ∃ x_144 : Bool, field_Elem_Equal x_97 (fun _ => 0#64) x_144 ∧
    if x_144 = true then (
      ∃ x_148 : Bool, field_Elem_Equal x_121 (fun _ => 0#64) x_148 ∧
      if x_148 = true then (
        r = true
      ) else (
        r = (x_138 != x_128)
      )
    ) else (
      r = false
    )
  )
  )
end Go.Proofs.YtjblfkmmbpcpaaaDoor
