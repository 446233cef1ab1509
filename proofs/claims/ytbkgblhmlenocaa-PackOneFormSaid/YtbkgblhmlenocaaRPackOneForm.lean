/-
  RELATIONS of the package's functions, printed by this session's own program (auto.py).
-/
import Derived.Test.YtbkgblhmlenocaaEb
import Derived.Test.YtbkgblhmlenocaaRLaw11
import Derived.Test.YtbkgblhmlenocaaRPack
namespace Go.Proofs.Ytbkgblhmlenocaa
set_option linter.unusedSimpArgs false
set_option linter.unusedVariables false
set_option linter.unusedSectionVars false
open Go Go.LW

def lethelaw11_PackOneForm (n_1 : Int) (content2 : List Byte) (l_3 : List (Int × (List Byte) × (List Byte))) (r : Bool) : Prop :=
  ∃ x_7 : List Byte, ∃ x_8 : Nat, pack_Encode ([] : List (Int × (List Byte) × (List Byte))) (x_7, x_8) ∧
  if x_8 ≠ 0 then (
    r = false
  ) else (
    ∃ x_22 : List (Int × (List Byte) × (List Byte)), ∃ x_23 : Nat, pack_Decode n_1 content2 (x_22, x_23) ∧
    if x_23 ≠ 0 then (
      r = (decide (x_22.length = 0))
    ) else (
      ∃ x_40 : List Byte, ∃ x_41 : Nat, pack_Encode x_22 (x_40, x_41) ∧
      if x_41 ≠ 0 then (
        r = false
      ) else (
        ∃ x_64 : Bool, lethelaw11_Eq x_40 content2 x_64 ∧
        if x_64 = true then (
          if ((x_22.length : Nat) : Int) ≠ n_1 then (
            r = false
          ) else (
            (-9223372036854775808 ≤ (n_1 + 1) ∧ (n_1 + 1) ≤ 9223372036854775807) ∧
            ∃ x_73 : List (Int × (List Byte) × (List Byte)), ∃ x_74 : Nat, pack_Decode (n_1 + 1) content2 (x_73, x_74) ∧
            (-9223372036854775808 ≤ (n_1 - 1) ∧ (n_1 - 1) ≤ 9223372036854775807) ∧
            ∃ x_88 : List (Int × (List Byte) × (List Byte)), ∃ x_89 : Nat, pack_Decode (n_1 - 1) content2 (x_88, x_89) ∧
            if x_74 ≠ 0 then (
              if n_1 = 0 then (
                if 0 < n_1 then (
                  r = true
                ) else (
                  r = (decide (x_89 = 4))
                )
              ) else (
                if x_89 = 104 then (
                  if 0 < n_1 then (
                    r = true
                  ) else (
                    r = (decide (x_89 = 4))
                  )
                ) else (
                  if x_89 = 0 then (
                    (-9223372036854775808 ≤ (n_1 - 1) ∧ (n_1 - 1) ≤ 9223372036854775807) ∧
                    (0 ≤ (n_1 - 1) ∧ (n_1 - 1) < x_22.length) ∧
                    ∃ x_116 : Bool, lethelaw11_blank ((x_22.getD ((n_1 - 1).toNat) ((0 : Int), ([] : List Byte), ([] : List Byte))).1) ((x_22.getD ((n_1 - 1).toNat) ((0 : Int), ([] : List Byte), ([] : List Byte))).2.1) ((x_22.getD ((n_1 - 1).toNat) ((0 : Int), ([] : List Byte), ([] : List Byte))).2.2) x_116 ∧
                    if x_116 = true then (
                      if 0 < n_1 then (
                        r = true
                      ) else (
                        r = (decide (x_89 = 4))
                      )
                    ) else (
                      r = false
                    )
                  ) else (
                    r = false
                  )
                )
              )
            ) else (
              r = false
            )
          )
        ) else (
          r = false
        )
      )
    )
  )
end Go.Proofs.Ytbkgblhmlenocaa
