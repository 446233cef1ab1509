/-
  RELATIONS of the package's functions, printed by this session's own program (auto.py).
-/
import Derived.Test.YtjblfkmmbpcpaaaDoorLx7
import Derived.Test.YtjblfkmmbpcpaaaDoorFldT
import Derived.Test.YtjblfkmmbpcpaaaDoorRField
namespace Go.Proofs.YtjblfkmmbpcpaaaDoor
set_option linter.unusedSimpArgs false
set_option linter.unusedVariables false
set_option linter.unusedSectionVars false
open Go Go.LW

def lethelaw06_FieldRing (x_1 : Nat → BitVec 8) (y2 : Nat → BitVec 8) (z3 : Nat → BitVec 8) (r : Bool) : Prop :=
  ∃ x_12 : Nat → BitVec 64, field_Read x_1 x_12 ∧
  ∃ x_16 : Nat → BitVec 64, field_Read y2 x_16 ∧
  ∃ x_20 : Nat → BitVec 64, field_Read z3 x_20 ∧
  ∃ x_28 : Nat → BitVec 64, field_Small (1#32) x_28 ∧
  ∃ x_96 : Nat → BitVec 64, field_Elem_Add x_12 x_16 x_96 ∧
  ∃ x_99 : Nat → BitVec 64, field_Elem_Add x_16 x_12 x_99 ∧
  ∃ x_102 : Bool, field_Elem_Equal x_96 x_99 x_102 ∧
  if x_102 = true then (
    ∃ x_106 : Nat → BitVec 64, field_Elem_Add x_16 x_20 x_106 ∧
    ∃ x_109 : Nat → BitVec 64, field_Elem_Add x_12 x_106 x_109 ∧
    ∃ x_112 : Nat → BitVec 64, field_Elem_Add x_12 x_16 x_112 ∧
    ∃ x_115 : Nat → BitVec 64, field_Elem_Add x_112 x_20 x_115 ∧
    ∃ x_118 : Bool, field_Elem_Equal x_109 x_115 x_118 ∧
    if x_118 = true then (
      ∃ x_122 : Nat → BitVec 64, field_Elem_Mul x_12 x_16 x_122 ∧
      ∃ x_125 : Nat → BitVec 64, field_Elem_Mul x_16 x_12 x_125 ∧
      ∃ x_128 : Bool, field_Elem_Equal x_122 x_125 x_128 ∧
      if x_128 = true then (
        ∃ x_132 : Nat → BitVec 64, field_Elem_Mul x_16 x_20 x_132 ∧
        ∃ x_135 : Nat → BitVec 64, field_Elem_Mul x_12 x_132 x_135 ∧
        ∃ x_138 : Nat → BitVec 64, field_Elem_Mul x_12 x_16 x_138 ∧
        ∃ x_141 : Nat → BitVec 64, field_Elem_Mul x_138 x_20 x_141 ∧
        ∃ x_144 : Bool, field_Elem_Equal x_135 x_141 x_144 ∧
        if x_144 = true then (
          ∃ x_193 : Nat → BitVec 64, field_Elem_Add x_16 x_20 x_193 ∧
          ∃ x_196 : Nat → BitVec 64, field_Elem_Mul x_12 x_193 x_196 ∧
          ∃ x_199 : Nat → BitVec 64, field_Elem_Mul x_12 x_16 x_199 ∧
          ∃ x_202 : Nat → BitVec 64, field_Elem_Mul x_12 x_20 x_202 ∧
          ∃ x_205 : Nat → BitVec 64, field_Elem_Add x_199 x_202 x_205 ∧
          ∃ x_208 : Bool, field_Elem_Equal x_196 x_205 x_208 ∧
          if x_208 = true then (
            ∃ x_212 : Nat → BitVec 64, field_Elem_Sub x_16 x_20 x_212 ∧
            ∃ x_215 : Nat → BitVec 64, field_Elem_Mul x_12 x_212 x_215 ∧
            ∃ x_218 : Nat → BitVec 64, field_Elem_Mul x_12 x_16 x_218 ∧
            ∃ x_221 : Nat → BitVec 64, field_Elem_Mul x_12 x_20 x_221 ∧
            ∃ x_224 : Nat → BitVec 64, field_Elem_Sub x_218 x_221 x_224 ∧
            ∃ x_227 : Bool, field_Elem_Equal x_215 x_224 x_227 ∧
            if x_227 = true then (
              ∃ t357 : Bool, (
                ∃ x_361 : Nat → BitVec 64, field_Elem_Add x_12 (fun _ => 0#64) x_361 ∧
                ∃ x_364 : Bool, field_Elem_Equal x_361 x_12 x_364 ∧
                if x_364 = true then (
                  ∃ x_368 : Nat → BitVec 64, field_Elem_Mul x_12 x_28 x_368 ∧
                  ∃ x_371 : Bool, field_Elem_Equal x_368 x_12 x_371 ∧
                  if x_371 = true then (
                    ∃ x_375 : Nat → BitVec 64, field_Elem_Mul x_12 (fun _ => 0#64) x_375 ∧
                    ∃ x_378 : Bool, field_Elem_Equal x_375 (fun _ => 0#64) x_378 ∧
                    if x_378 = true then (
                      ∃ x_382 : Nat → BitVec 64, field_Elem_Sub x_12 x_16 x_382 ∧
                      ∃ x_385 : Nat → BitVec 64, field_Elem_Add x_382 x_16 x_385 ∧
                      ∃ x_388 : Bool, field_Elem_Equal x_385 x_12 x_388 ∧
                      if x_388 = true then (
                        ∃ x_392 : Nat → BitVec 64, field_Elem_Sub x_12 x_12 x_392 ∧
                        ∃ x_395 : Bool, field_Elem_Equal x_392 (fun _ => 0#64) x_395 ∧
                        t357 = (!x_395)
                      ) else (
                        t357 = true
                      )
                    ) else (
                      t357 = true
                    )
                  ) else (
                    t357 = true
                  )
                ) else (
                  t357 = true
                )
              ) ∧
              if t357 = true then (
                r = false
              ) else (
                ∃ x_409 : Nat → BitVec 64, field_Elem_Square x_12 x_409 ∧
                ∃ x_412 : Nat → BitVec 64, field_Elem_Mul x_12 x_12 x_412 ∧
                ∃ x_415 : Bool, field_Elem_Equal x_409 x_412 x_415 ∧
                if x_415 = true then (
                  ∃ x_419 : Bool, field_Elem_Equal x_28 (fun _ => 0#64) x_419 ∧
                  if x_419 = true then (
                    r = false
                  ) else (
                    ∃ x_424 : Nat → BitVec 64, field_Small (0#32) x_424 ∧
                    ∃ x_427 : Bool, field_Elem_Equal (fun _ => 0#64) x_424 x_427 ∧
                    if x_427 = true then (
                      ∃ x_431 : Bool, field_Elem_Equal x_12 x_16 x_431 ∧
                      ∃ x_434 : Nat → BitVec 8, field_Elem_Bytes x_12 x_434 ∧
                      ∃ x_437 : Nat → BitVec 8, field_Elem_Bytes x_16 x_437 ∧
                      r = (x_431 == (eqB 32 x_434 x_437))
                    ) else (
                      r = false
                    )
                  )
                ) else (
                  r = false
                )
              )
            ) else (
              r = false
            )
          ) else (
            r = false
          )
        ) else (
          r = false
        )
      ) else (
        r = false
      )
    ) else (
      r = false
    )
  ) else (
    r = false
  )
end Go.Proofs.YtjblfkmmbpcpaaaDoor
