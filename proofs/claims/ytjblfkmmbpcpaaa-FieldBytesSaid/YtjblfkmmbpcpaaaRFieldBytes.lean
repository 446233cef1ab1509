/-
  RELATIONS of the package's functions, printed by this session's own program (auto.py).
-/
import Derived.Test.YtjblfkmmbpcpaaaLx6
import Derived.Test.YtjblfkmmbpcpaaaRField
import Derived.Test.YtjblfkmmbpcpaaaRLaw06
namespace Go.Proofs.Ytjblfkmmbpcpaaa
set_option linter.unusedSimpArgs false
set_option linter.unusedVariables false
set_option linter.unusedSectionVars false
open Go Go.LW

def lethelaw06_FieldBytes (k1 : Nat → BitVec 8) (n_2 : BitVec 8) (bit3 : Int) (r : Bool) : Prop :=
  ∃ x_8 : Nat → BitVec 64, field_Read k1 x_8 ∧
  ∃ x_14 : Nat → BitVec 8, field_Elem_Bytes x_8 x_14 ∧
  ∃ x_44 : Bool, field_Fits x_14 x_44 ∧
  if x_44 = true then (
    if (127#8).toNat < (x_14 31).toNat then (
      r = false
    ) else (
      ∃ x_51 : Bool, field_Fits k1 x_51 ∧
      if ((eqB 32 x_14 k1) != x_51) = true then (
        r = false
      ) else (
        ∃ x_57 : Nat → BitVec 64, field_Read x_14 x_57 ∧
        ∃ x_60 : Bool, field_Elem_Equal x_57 x_8 x_60 ∧
        if x_60 = true then (
          ∃ ok88 : Bool, (
            ∃ x_92 : Nat → BitVec 64, field_Read (upd k1 31 ((k1 31) ^^^ (128#8))) x_92 ∧
            ∃ x_95 : Bool, field_Elem_Equal x_92 x_8 x_95 ∧
            if x_95 = true then (
              ∃ x_99 : Bool, field_Fits k1 x_99 ∧
              if x_99 = true then (
                ∃ x_103 : Bool, field_Fits (upd k1 31 ((k1 31) ^^^ (128#8))) x_103 ∧
                if x_103 = true then (
                  ok88 = false ∧ r = false
                ) else (
                  ok88 = true
                )
              ) else (
                ok88 = true
              )
            ) else (
              ok88 = false ∧ r = false
            )
          ) ∧
          (ok88 = true →
          ∃ x_115 : Nat → BitVec 8, lethelaw06_prime (0#8) x_115 ∧
          ∃ x_147 : Bool, field_Fits (upd x_115 0 ((x_115 0) + (n_2 % (19#8)))) x_147 ∧
          if x_147 = true then (
            r = false
          ) else (
            ∃ x_153 : Nat → BitVec 64, field_Read (upd x_115 0 ((x_115 0) + (n_2 % (19#8)))) x_153 ∧
            ∃ x_156 : Nat → BitVec 8, field_Elem_Bytes x_153 x_156 ∧
            if (eqB 32 x_156 (upd (fun _ => 0#8) 0 (n_2 % (19#8)))) = true then (
              ∃ x_160 : Nat → BitVec 8, lethelaw06_prime ((n_2 % (19#8)) + (1#8)) x_160 ∧
              ∃ x_163 : Bool, field_Fits x_160 x_163 ∧
              if x_163 = true then (
                ∃ m217 : Nat → BitVec 64, (
                  ∃ x_222 : Nat → BitVec 64, field_Small (((n_2 % (19#8)).setWidth 32) + (3#32)) x_222 ∧
                  m217 = x_222
                ) ∧
                ∃ x_278 : Nat → BitVec 64, ∃ x_279 : Nat → BitVec 64, field_Swap bit3 m217 x_8 (x_278, x_279) ∧
                if (bit3 % 2) = 1 then (
                  ∃ x_290 : Bool, field_Elem_Equal x_278 x_8 x_290 ∧
                  if x_290 = true then (
                    ∃ x_294 : Bool, field_Elem_Equal x_279 m217 x_294 ∧
                    r = x_294
                  ) else (
                    r = false
                  )
                ) else (
                  ∃ x_300 : Bool, field_Elem_Equal x_278 m217 x_300 ∧
                  if x_300 = true then (
                    ∃ x_304 : Bool, field_Elem_Equal x_279 x_8 x_304 ∧
                    r = x_304
                  ) else (
                    r = false
                  )
                )
              ) else (
                r = false
              )
            ) else (
              r = false
            )
          )
          )
        ) else (
          r = false
        )
      )
    )
  ) else (
    r = false
  )
end Go.Proofs.Ytjblfkmmbpcpaaa
