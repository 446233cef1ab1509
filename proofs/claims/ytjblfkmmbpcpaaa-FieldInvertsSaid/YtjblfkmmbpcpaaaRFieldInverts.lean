/-
  RELATIONS of the package's functions, printed by this session's own program (auto.py).
-/
import Derived.Test.YtjblfkmmbpcpaaaLx6
import Derived.Test.YtjblfkmmbpcpaaaRField
import Derived.Test.YtjblfkmmbpcpaaaRLaw06
namespace Go.Proofs.Ytjblfkmmbpcpaaa
set_option linter.unusedSimpArgs false
set_option linter.unusedVariables false
set_option linter.unusedSectionVars false
open Go Go.LW

def lethelaw06_FieldInverts (x_1 : Nat → BitVec 8) (y2 : Nat → BitVec 8) (r : Bool) : Prop :=
  ∃ m139 : Nat → BitVec 64, ∃ m141 : Nat → BitVec 64, (
    ∃ x_145 : Nat → BitVec 64, field_Read x_1 x_145 ∧
    ∃ x_148 : Nat → BitVec 64, field_Read y2 x_148 ∧
    ∃ x_160 : Nat → BitVec 64, field_Read y2 x_160 ∧
    ∃ x_167 : Nat → BitVec 64, field_Read y2 x_167 ∧
    ∃ x_173 : Nat → BitVec 64, field_Read y2 x_173 ∧
    ∃ x_180 : Nat → BitVec 64, field_Read y2 x_180 ∧
    m139 = x_145 ∧ m141 = x_180
  ) ∧
  ∃ x_289 : Nat → BitVec 64, field_Small (1#32) x_289 ∧
  ∃ x_297 : Nat → BitVec 64, field_Elem_Inv m139 x_297 ∧
  ∃ x_304 : Bool, field_Elem_Equal m139 (fun _ => 0#64) x_304 ∧
  if x_304 = true then (
    ∃ x_310 : Bool, field_Elem_Equal x_297 (fun _ => 0#64) x_310 ∧
    if x_310 = true then (
      ∃ x_314 : Nat → BitVec 8, lethelaw06_prime (1#8) x_314 ∧
      ∃ x_317 : Nat → BitVec 64, field_Elem_Pow m139 x_314 x_317 ∧
      ∃ x_320 : Bool, field_Elem_Equal x_317 (fun _ => 0#64) x_320 ∧
      if x_320 = true then (
        ∃ x_324 : Nat → BitVec 64, field_Elem_Pow m139 (fun _ => 0#8) x_324 ∧
        ∃ x_327 : Bool, field_Elem_Equal x_324 x_289 x_327 ∧
        r = x_327
      ) else (
        r = false
      )
    ) else (
      r = false
    )
  ) else (
    ∃ x_335 : Nat → BitVec 64, field_Elem_Mul m139 x_297 x_335 ∧
    ∃ x_338 : Bool, field_Elem_Equal x_335 x_289 x_338 ∧
    if x_338 = true then (
      ∃ x_342 : Nat → BitVec 64, field_Elem_Inv x_297 x_342 ∧
      ∃ x_345 : Bool, field_Elem_Equal x_342 m139 x_345 ∧
      if x_345 = true then (
        ∃ x_349 : Nat → BitVec 8, lethelaw06_prime (1#8) x_349 ∧
        ∃ x_352 : Nat → BitVec 64, field_Elem_Pow m139 x_349 x_352 ∧
        ∃ x_355 : Bool, field_Elem_Equal x_352 x_289 x_355 ∧
        if x_355 = true then (
          ∃ x_359 : Nat → BitVec 8, lethelaw06_prime (0#8) x_359 ∧
          ∃ x_362 : Nat → BitVec 64, field_Elem_Pow m139 x_359 x_362 ∧
          ∃ x_365 : Bool, field_Elem_Equal x_362 m139 x_365 ∧
          if x_365 = true then (
            ∃ x_369 : Nat → BitVec 64, field_Elem_Mul m139 m141 x_369 ∧
            ∃ x_372 : Nat → BitVec 64, field_Elem_Inv x_369 x_372 ∧
            ∃ x_375 : Nat → BitVec 64, field_Elem_Inv m141 x_375 ∧
            ∃ x_378 : Nat → BitVec 64, field_Elem_Mul x_297 x_375 x_378 ∧
            ∃ x_381 : Bool, field_Elem_Equal x_372 x_378 x_381 ∧
            r = x_381
          ) else (
            r = false
          )
        ) else (
          r = false
        )
      ) else (
        r = false
      )
    ) else (
      r = false
    )
  )
end Go.Proofs.Ytjblfkmmbpcpaaa
