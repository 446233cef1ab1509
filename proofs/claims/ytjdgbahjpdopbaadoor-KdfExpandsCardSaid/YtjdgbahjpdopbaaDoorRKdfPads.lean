/-
  RELATIONS of the package's functions, printed by this session's own program (auto.py).
-/
import Derived.Test.YtjdgbahjpdopbaaDoorLx5
import Derived.Test.YtjdgbahjpdopbaaDoorShaM
import Derived.Test.YtjdgbahjpdopbaaDoorRKdf
import Derived.Test.YtjdgbahjpdopbaaDoorRLaw03
import Derived.Test.YtjdgbahjpdopbaaDoorRSha
namespace Go.Proofs.YtjdgbahjpdopbaaDoor
set_option linter.unusedSimpArgs false
set_option linter.unusedVariables false
set_option linter.unusedSectionVars false
open Go Go.LW

def lethelaw03_KdfPads (key1 : List Byte) (zeros2 : Int) (text3 : List Byte) (cut4 : Int) (r : Bool) : Prop :=
  ∃ x_9 : Bool, lethelaw03_awake x_9 ∧
  if x_9 = true then (
    ∃ x_14 : List Byte, lethelaw03_short key1 x_14 ∧
    ∃ x_20 : List Byte, lethelaw03_short text3 x_20 ∧
    ((x_20.length + 1) < 9223372036854775808) ∧
    ∃ x_28 : Int, lethelaw03_rest cut4 (((x_20.length + 1) : Nat) : Int) x_28 ∧
    ∃ x_34 : Nat → BitVec 8, kdf_Mac x_14 ([x_20] : List (List Byte)) x_34 ∧
    (0 ≤ x_28) ∧
    (0 ≤ x_28.toNat ∧ x_28.toNat ≤ x_20.length) ∧
    (0 ≤ x_28) ∧
    (x_28.toNat ≤ x_20.length ∧ x_20.length ≤ x_20.length) ∧
    ∃ x_50 : Nat → BitVec 8, kdf_Mac x_14 ([(seg x_20 0 x_28.toNat), (seg x_20 x_28.toNat x_20.length)] : List (List Byte)) x_50 ∧
    if (eqB 32 x_50 x_34) = true then (
      if 64 < x_14.length then (
        ∃ x_60 : Nat → BitVec 8, sha_Sum ([x_14] : List (List Byte)) x_60 ∧
        ∃ x_69 : Nat → BitVec 8, kdf_Mac (dl 32 x_60) ([x_20] : List (List Byte)) x_69 ∧
        r = (eqB 32 x_69 x_34)
      ) else (
        (0 + x_14.length ≤ 140737488355328) ∧
        ∃ x_77 : Int, lethelaw03_rest zeros2 (((65 - x_14.length) : Nat) : Int) x_77 ∧
        (0 ≤ x_77) ∧
        ((([] : List Byte) ++ x_14).length + x_77.toNat ≤ 140737488355328) ∧
        ∃ x_87 : Nat → BitVec 8, kdf_Mac ((([] : List Byte) ++ x_14) ++ List.replicate x_77.toNat 0#8) ([x_20] : List (List Byte)) x_87 ∧
        if (eqB 32 x_87 x_34) = true then (
          ∃ x_91 : Nat → BitVec 8, kdf_Extract ([] : List Byte) x_20 x_91 ∧
          ∃ x_95 : Nat → BitVec 8, kdf_Extract (List.replicate 32 0#8) x_20 x_95 ∧
          r = (eqB 32 x_91 x_95)
        ) else (
          r = false
        )
      )
    ) else (
      r = false
    )
  ) else (
    r = false
  )
end Go.Proofs.YtjdgbahjpdopbaaDoor
