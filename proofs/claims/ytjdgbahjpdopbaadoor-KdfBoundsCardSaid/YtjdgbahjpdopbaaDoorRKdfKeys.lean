/-
  RELATIONS of the package's functions, printed by this session's own program (auto.py).
-/
import Derived.Test.YtjdgbahjpdopbaaDoorLx9
import Derived.Test.YtjdgbahjpdopbaaDoorShaM
import Derived.Test.YtjdgbahjpdopbaaDoorRKdf
import Derived.Test.YtjdgbahjpdopbaaDoorRLaw03
namespace Go.Proofs.YtjdgbahjpdopbaaDoor
set_option linter.unusedSimpArgs false
set_option linter.unusedVariables false
set_option linter.unusedSectionVars false
open Go Go.LW

def lethelaw03_KdfKeys_l0 (x_27 : Int) (x_42 : List Byte) (r : Bool) (s : ((List (Nat → BitVec 8)) × (List Byte) × Nat)) (o118 : ((List (Nat → BitVec 8)) × (List Byte) × Nat) ⊕ (Option Unit)) : Prop :=
  match s with
  | (l_115, b116, i_117) =>
    if ((i_117 : Nat) : Int) < x_27 then (
      (i_117 < l_115.length) ∧
      ((32 * i_117) < 9223372036854775808) ∧
      ((32 * i_117) < 9223372036854775808) ∧
      (((32 * i_117) + 32) < 9223372036854775808) ∧
      ((32 * i_117) ≤ ((32 * i_117) + 32) ∧ ((32 * i_117) + 32) ≤ x_42.length) ∧
      ∃ x_135 : Bool, lethelaw03_Eq (dl 32 (l_115.getD i_117 (fun _ => 0#8))) (seg b116 (32 * i_117) ((32 * i_117) + 32)) x_135 ∧
      if x_135 = true then (
        ((i_117 + 1) < 9223372036854775808) ∧
        o118 = .inl (l_115, b116, (i_117 + 1))
      ) else (
        o118 = .inr none ∧ r = false
      )
    ) else (
      o118 = .inr (some ())
    )
def lethelaw03_KdfKeys (salt1 : List Byte) (key2 : List Byte) (info3 : List Byte) (n_4 : Int) (r : Bool) : Prop :=
  ∃ x_8 : List Byte, lethelaw03_short salt1 x_8 ∧
  ∃ x_14 : List Byte, lethelaw03_short key2 x_14 ∧
  ∃ x_20 : List Byte, lethelaw03_short info3 x_20 ∧
  ∃ x_27 : Int, lethelaw03_rest n_4 12 x_27 ∧
  ∃ x_31 : List (Nat → BitVec 8), ∃ x_32 : Nat, kdf_Keys x_8 x_14 x_20 x_27 (x_31, x_32) ∧
  (-9223372036854775808 ≤ (32 * x_27) ∧ (32 * x_27) ≤ 9223372036854775807) ∧
  ∃ x_42 : List Byte, ∃ x_43 : Nat, kdf_Derive x_8 x_14 x_20 (32 * x_27) (x_42, x_43) ∧
  if x_32 ≠ 0 then (
    r = false
  ) else (
    if x_43 ≠ 0 then (
      r = false
    ) else (
      if ((x_31.length : Nat) : Int) ≠ x_27 then (
        r = false
      ) else (
        (-9223372036854775808 ≤ (32 * x_27) ∧ (32 * x_27) ≤ 9223372036854775807) ∧
        if ((x_42.length : Nat) : Int) ≠ (32 * x_27) then (
          r = false
        ) else (
          ∃ x118 : Option Unit, Iter (lethelaw03_KdfKeys_l0 x_27 x_42 r) (x_31, x_42, 0) x118 ∧ (x118 = some () →
          r = true
          )
        )
      )
    )
  )
end Go.Proofs.YtjdgbahjpdopbaaDoor
