/-
  RELATIONS of the package's functions, printed by this session's own program (auto.py).
-/
import Derived.Test.YtbkgblhmlenocaaEb
import Derived.Test.YtbkgblhmlenocaaRLaw11
import Derived.Test.YtbkgblhmlenocaaRPack
namespace Go.Proofs.Ytbkgblhmlenocaa
set_option linter.unusedSimpArgs false
set_option linter.unusedVariables false
set_option linter.unusedSectionVars false
open Go Go.LW

def lethelaw11_PackLayout_l1 (x_9 : List (Int × (List Byte) × (List Byte))) (x_22 : List Int) (i_222 : Nat) (o224 : (Nat × Nat) ⊕ (Option Nat)) (r : Bool) (s : (Nat × Nat × Nat)) (o278 : (Nat × Nat × Nat) ⊕ (Option (Nat × Nat))) : Prop :=
  match s with
  | (at_273, size274, k275) =>
    (i_222 < x_22.length) ∧
    if ((k275 : Nat) : Int) < (x_22.getD i_222 (0 : Int)) then (
      if x_9.length ≤ at_273 then (
        o278 = .inr none ∧ o224 = .inr none ∧ r = false
      ) else (
        (at_273 < x_9.length) ∧
        ∃ x_295 : Nat, pack_Size ((x_9.getD at_273 ((0 : Int), ([] : List Byte), ([] : List Byte))).1) ((x_9.getD at_273 ((0 : Int), ([] : List Byte), ([] : List Byte))).2.1) ((x_9.getD at_273 ((0 : Int), ([] : List Byte), ([] : List Byte))).2.2) x_295 ∧
        ((size274 + x_295) < 9223372036854775808) ∧
        ((at_273 + 1) < 9223372036854775808) ∧
        ((k275 + 1) < 9223372036854775808) ∧
        o278 = .inl ((at_273 + 1), (size274 + x_295), (k275 + 1))
      )
    ) else (
      o278 = .inr (some (at_273, size274))
    )
def lethelaw11_PackLayout_l0 (x_9 : List (Int × (List Byte) × (List Byte))) (x_22 : List Int) (r : Bool) (s : (Nat × Nat)) (o224 : (Nat × Nat) ⊕ (Option Nat)) : Prop :=
  match s with
  | (at_221, i_222) =>
    if i_222 < x_22.length then (
      ∃ x278 : Option (Nat × Nat), Iter (lethelaw11_PackLayout_l1 x_9 x_22 i_222 o224 r) (at_221, 0, 0) x278 ∧ (∀ (at_276 : Nat) (size277 : Nat), x278 = some (at_276, size277) →
      if 1008 < size277 then (
        o224 = .inr none ∧ r = false
      ) else (
        (i_222 < x_22.length) ∧
        if (x_22.getD i_222 (0 : Int)) < 1 then (
          o224 = .inr none ∧ r = false
        ) else (
          if at_276 < x_9.length then (
            (at_276 < x_9.length) ∧
            ∃ x_314 : Nat, pack_Size ((x_9.getD at_276 ((0 : Int), ([] : List Byte), ([] : List Byte))).1) ((x_9.getD at_276 ((0 : Int), ([] : List Byte), ([] : List Byte))).2.1) ((x_9.getD at_276 ((0 : Int), ([] : List Byte), ([] : List Byte))).2.2) x_314 ∧
            ((size277 + x_314) < 9223372036854775808) ∧
            if (size277 + x_314) ≤ 1008 then (
              o224 = .inr none ∧ r = false
            ) else (
              ((i_222 + 1) < 9223372036854775808) ∧
              o224 = .inl (at_276, (i_222 + 1))
            )
          ) else (
            ((i_222 + 1) < 9223372036854775808) ∧
            o224 = .inl (at_276, (i_222 + 1))
          )
        )
      )
      )
    ) else (
      o224 = .inr (some at_221)
    )
def lethelaw11_PackLayout (l_1 : List (Int × (List Byte) × (List Byte))) (goneTable2 : Int) (goneKey3 : List Byte) (goneValue4 : List Byte) (r : Bool) : Prop :=
  ∃ x_9 : List (Int × (List Byte) × (List Byte)), lethelaw11_sorted l_1 x_9 ∧
  ∃ x_22 : List Int, ∃ x_23 : Nat, pack_Pack x_9 (x_22, x_23) ∧
  if x_23 ≠ 0 then (
    r = false
  ) else (
    ∃ x224 : Option Nat, Iter (lethelaw11_PackLayout_l0 x_9 x_22 r) (0, 0) x224 ∧ (∀ (at_223 : Nat), x224 = some at_223 →
    ∃ x_325 : Int, ∃ x_326 : List Byte, ∃ x_327 : List Byte, lethelaw11_right goneTable2 goneKey3 goneValue4 (x_325, x_326, x_327) ∧
    ∃ x_345 : Nat, ∃ x_346 : Bool, pack_Find x_9 x_325 x_326 (x_345, x_346) ∧
    ∃ x_350 : List (Int × (List Byte) × (List Byte)), ∃ x_351 : Nat, pack_Put x_9 x_325 x_326 x_327 (x_350, x_351) ∧
    ∃ x_366 : List (Int × (List Byte) × (List Byte)), ∃ x_367 : Nat, pack_Delete x_350 x_325 x_326 (x_366, x_367) ∧
    if x_351 ≠ 0 then (
      r = false
    ) else (
      if x_367 ≠ 0 then (
        r = false
      ) else (
        if at_223 ≠ x_9.length then (
          r = false
        ) else (
          if x_346 = true then (
            if x_350.length = x_9.length then (
              (-9223372036854775808 ≤ (((x_9.length : Nat) : Int) - 1) ∧ (((x_9.length : Nat) : Int) - 1) ≤ 9223372036854775807) ∧
              r = (decide (((x_366.length : Nat) : Int) = (((x_9.length : Nat) : Int) - 1)))
            ) else (
              r = false
            )
          ) else (
            ∃ x_409 : List Int, ∃ x_410 : Nat, pack_Pack x_366 (x_409, x_410) ∧
            if x_410 = 0 then (
              ∃ x_420 : Bool, lethelaw11_Same x_366 x_9 x_420 ∧
              if x_420 = true then (
                ∃ x_424 : Bool, lethelaw11_sameInts x_409 x_22 x_424 ∧
                r = x_424
              ) else (
                r = false
              )
            ) else (
              r = false
            )
          )
        )
      )
    )
    )
  )
end Go.Proofs.Ytbkgblhmlenocaa
