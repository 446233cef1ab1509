/-
  RELATIONS of the package's functions, printed by this session's own program (auto.py).
-/
import Derived.Test.YtjdgbahjpdopbaaDoorLx9
import Derived.Test.YtjdgbahjpdopbaaDoorShaM
import Derived.Test.YtjdgbahjpdopbaaDoorRKdf
import Derived.Test.YtjdgbahjpdopbaaDoorRLaw03
namespace Go.Proofs.YtjdgbahjpdopbaaDoor
set_option linter.unusedSimpArgs false
set_option linter.unusedVariables false
set_option linter.unusedSectionVars false
open Go Go.LW

def lethelaw03_KdfBounds (prk1 : List Byte) (n_2 : Int) (r : Bool) : Prop :=
  ∃ x_6 : List Byte, lethelaw03_short prk1 x_6 ∧
  ∃ x_13 : List Byte, ∃ x_14 : Nat, kdf_Expand x_6 ([] : List Byte) 8160 (x_13, x_14) ∧
  if x_14 ≠ 0 then (
    r = false
  ) else (
    if x_13.length ≠ 8160 then (
      r = false
    ) else (
      (8096 ≤ 8128 ∧ 8128 ≤ x_13.length) ∧
      ∃ x_41 : Nat → BitVec 8, kdf_Mac x_6 ([(seg x_13 8096 8128), ([255#8] : List Byte)] : List (List Byte)) x_41 ∧
      (8128 ≤ x_13.length ∧ x_13.length ≤ x_13.length) ∧
      ∃ x_51 : Bool, lethelaw03_Eq (seg x_13 8128 x_13.length) (dl 32 x_41) x_51 ∧
      if x_51 = true then (
        ∃ x_56 : List Byte, ∃ x_57 : Nat, kdf_Expand x_6 ([] : List Byte) n_2 (x_56, x_57) ∧
        ∃ x_66 : List (Nat → BitVec 8), ∃ x_67 : Nat, kdf_Keys x_6 ([] : List Byte) ([] : List Byte) n_2 (x_66, x_67) ∧
        ∃ x_76 : List Byte, ∃ x_77 : Nat, kdf_Derive x_6 ([] : List Byte) ([] : List Byte) n_2 (x_76, x_77) ∧
        if n_2 < 0 then (
          if x_57 = 4 then (
            if x_67 = 4 then (
              if x_77 = 4 then (
                if x_56.length = 0 then (
                  if x_66.length = 0 then (
                    r = (decide (x_76.length = 0))
                  ) else (
                    r = false
                  )
                ) else (
                  r = false
                )
              ) else (
                r = false
              )
            ) else (
              r = false
            )
          ) else (
            r = false
          )
        ) else (
          if 8160 < n_2 then (
            if x_57 = 30 then (
              if x_67 = 30 then (
                if x_77 = 30 then (
                  if x_56.length = 0 then (
                    if x_66.length = 0 then (
                      r = (decide (x_76.length = 0))
                    ) else (
                      r = false
                    )
                  ) else (
                    r = false
                  )
                ) else (
                  r = false
                )
              ) else (
                r = false
              )
            ) else (
              r = false
            )
          ) else (
            if 255 < n_2 then (
              if x_57 = 0 then (
                if x_67 = 30 then (
                  if x_77 = 0 then (
                    if ((x_56.length : Nat) : Int) = n_2 then (
                      if x_66.length = 0 then (
                        r = (decide (((x_76.length : Nat) : Int) = n_2))
                      ) else (
                        r = false
                      )
                    ) else (
                      r = false
                    )
                  ) else (
                    r = false
                  )
                ) else (
                  r = false
                )
              ) else (
                r = false
              )
            ) else (
              if x_57 = 0 then (
                if x_67 = 0 then (
                  if x_77 = 0 then (
                    if ((x_56.length : Nat) : Int) = n_2 then (
                      if ((x_66.length : Nat) : Int) = n_2 then (
                        r = (decide (((x_76.length : Nat) : Int) = n_2))
                      ) else (
                        r = false
                      )
                    ) else (
                      r = false
                    )
                  ) else (
                    r = false
                  )
                ) else (
                  r = false
                )
              ) else (
                r = false
              )
            )
          )
        )
      ) else (
        r = false
      )
    )
  )
end Go.Proofs.YtjdgbahjpdopbaaDoor
