/-
  RELATIONS of the package's functions, printed by this session's own program (auto.py).
-/
import Derived.Test.YtbkgblhmlenocaaEb
import Derived.Test.YtbkgblhmlenocaaRLaw11
import Derived.Test.YtbkgblhmlenocaaRPack
namespace Go.Proofs.Ytbkgblhmlenocaa
set_option linter.unusedSimpArgs false
set_option linter.unusedVariables false
set_option linter.unusedSectionVars false
open Go Go.LW

def lethelaw11_PackFinds_l0 (x_29 : Int) (x_30 : List Byte) (x_31 : List Byte) (x_206 : List (Int × (List Byte) × (List Byte))) (x_220 : Nat) (r : Bool) (i_337 : Nat) (o338 : Nat ⊕ (Option Unit)) : Prop :=
  if i_337 < x_206.length then (
    (i_337 < x_206.length) ∧
    ∃ x_350 : Int, pack_Compare ((x_206.getD i_337 ((0 : Int), ([] : List Byte), ([] : List Byte))).1) ((x_206.getD i_337 ((0 : Int), ([] : List Byte), ([] : List Byte))).2.1) ((x_206.getD i_337 ((0 : Int), ([] : List Byte), ([] : List Byte))).2.2) x_29 x_30 x_31 x_350 ∧
    ∃ t363 : Bool, (
      if i_337 < x_220 then (
        if x_350 ≠ (-1) then (
          t363 = true
        ) else (
          if i_337 = x_220 then (
            if x_350 ≠ 0 then (
              t363 = true
            ) else (
              if x_220 < i_337 then (
                t363 = (decide (x_350 ≠ 1))
              ) else (
                t363 = false
              )
            )
          ) else (
            if x_220 < i_337 then (
              t363 = (decide (x_350 ≠ 1))
            ) else (
              t363 = false
            )
          )
        )
      ) else (
        if i_337 = x_220 then (
          if x_350 ≠ 0 then (
            t363 = true
          ) else (
            if x_220 < i_337 then (
              t363 = (decide (x_350 ≠ 1))
            ) else (
              t363 = false
            )
          )
        ) else (
          if x_220 < i_337 then (
            t363 = (decide (x_350 ≠ 1))
          ) else (
            t363 = false
          )
        )
      )
    ) ∧
    if t363 = true then (
      o338 = .inr none ∧ r = false
    ) else (
      ((i_337 + 1) < 9223372036854775808) ∧
      o338 = .inl (i_337 + 1)
    )
  ) else (
    o338 = .inr (some ())
  )
def lethelaw11_PackFinds (l_1 : List (Int × (List Byte) × (List Byte))) (rTable2 : Int) (rKey3 : List Byte) (rValue4 : List Byte) (sTable5 : Int) (sKey6 : List Byte) (sValue7 : List Byte) (r : Bool) : Prop :=
  ∃ x_13 : List (Int × (List Byte) × (List Byte)), lethelaw11_sorted l_1 x_13 ∧
  ∃ x_29 : Int, ∃ x_30 : List Byte, ∃ x_31 : List Byte, lethelaw11_right rTable2 rKey3 rValue4 (x_29, x_30, x_31) ∧
  ∃ x_49 : Int, ∃ x_50 : List Byte, ∃ x_51 : List Byte, lethelaw11_right sTable5 sKey6 sValue7 (x_49, x_50, x_51) ∧
  ∃ x_74 : Int, pack_Compare x_29 x_30 x_31 x_49 x_50 x_51 x_74 ∧
  ∃ t166 : Bool, (
    ∃ x_169 : Int, pack_Compare x_49 x_50 x_51 x_29 x_30 x_31 x_169 ∧
    (-9223372036854775808 ≤ -x_169 ∧ -x_169 ≤ 9223372036854775807) ∧
    if x_74 ≠ (-x_169) then (
      t166 = true
    ) else (
      if x_29 = x_49 then (
        ∃ x_176 : Bool, lethelaw11_Eq x_30 x_50 x_176 ∧
        if ((decide (x_74 = 0)) != x_176) = true then (
          t166 = true
        ) else (
          ∃ x_181 : Bool, lethelaw11_ahead x_29 x_30 x_31 x_49 x_50 x_51 x_181 ∧
          if ((decide (x_74 < 0)) != x_181) = true then (
            t166 = true
          ) else (
            ∃ x_186 : Int, pack_Compare x_29 x_30 x_31 x_29 x_30 x_31 x_186 ∧
            t166 = (decide (x_186 ≠ 0))
          )
        )
      ) else (
        if ((decide (x_74 = 0)) != false) = true then (
          t166 = true
        ) else (
          ∃ x_192 : Bool, lethelaw11_ahead x_29 x_30 x_31 x_49 x_50 x_51 x_192 ∧
          if ((decide (x_74 < 0)) != x_192) = true then (
            t166 = true
          ) else (
            ∃ x_197 : Int, pack_Compare x_29 x_30 x_31 x_29 x_30 x_31 x_197 ∧
            t166 = (decide (x_197 ≠ 0))
          )
        )
      )
    )
  ) ∧
  if t166 = true then (
    r = false
  ) else (
    ∃ x_206 : List (Int × (List Byte) × (List Byte)), ∃ x_207 : Nat, pack_Put x_13 x_29 x_30 x_31 (x_206, x_207) ∧
    ∃ x_220 : Nat, ∃ x_221 : Bool, pack_Find x_206 x_29 x_30 (x_220, x_221) ∧
    if x_207 ≠ 0 then (
      r = false
    ) else (
      if x_221 = true then (
        if x_220 < 0 then (
          r = false
        ) else (
          if x_206.length ≤ x_220 then (
            r = false
          ) else (
            (x_220 < x_206.length) ∧
            ∃ x_256 : Bool, lethelaw11_Eq ((x_206.getD x_220 ((0 : Int), ([] : List Byte), ([] : List Byte))).2.2) x_31 x_256 ∧
            if x_256 = true then (
              ∃ x338 : Option Unit, Iter (lethelaw11_PackFinds_l0 x_29 x_30 x_31 x_206 x_220 r) 0 x338 ∧ (x338 = some () →
              ∃ x_383 : List (Int × (List Byte) × (List Byte)), ∃ x_384 : Nat, pack_Delete x_206 x_29 x_30 (x_383, x_384) ∧
              ∃ x_397 : Nat, ∃ x_398 : Bool, pack_Find x_383 x_29 x_30 (x_397, x_398) ∧
              ∃ x_402 : List (Int × (List Byte) × (List Byte)), ∃ x_403 : Nat, pack_Delete x_383 x_29 x_30 (x_402, x_403) ∧
              if x_384 = 0 then (
                if x_398 = true then (
                  r = false
                ) else (
                  if x_397 = x_220 then (
                    r = (decide (x_403 = 122))
                  ) else (
                    r = false
                  )
                )
              ) else (
                r = false
              )
              )
            ) else (
              r = false
            )
          )
        )
      ) else (
        r = false
      )
    )
  )
end Go.Proofs.Ytbkgblhmlenocaa
