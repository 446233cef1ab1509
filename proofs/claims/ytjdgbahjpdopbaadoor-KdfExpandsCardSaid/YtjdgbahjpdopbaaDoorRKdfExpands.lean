/-
  RELATIONS of the package's functions, printed by this session's own program (auto.py).
-/
import Derived.Test.YtjdgbahjpdopbaaDoorLx5
import Derived.Test.YtjdgbahjpdopbaaDoorShaM
import Derived.Test.YtjdgbahjpdopbaaDoorRKdf
import Derived.Test.YtjdgbahjpdopbaaDoorRLaw03
namespace Go.Proofs.YtjdgbahjpdopbaaDoor
set_option linter.unusedSimpArgs false
set_option linter.unusedVariables false
set_option linter.unusedSectionVars false
open Go Go.LW

def lethelaw03_KdfExpands_l0 (x_8 : List Byte) (x_14 : List Byte) (x_21 : Int) (x_25 : List Byte) (r : Bool) (s : ((List Byte) × (List Byte) × Nat)) (o126 : ((List Byte) × (List Byte) × Nat) ⊕ (Option (List Byte))) : Prop :=
  match s with
  | (l_121, t122, i_124) =>
    ((32 * i_124) < 9223372036854775808) ∧
    if (((32 * i_124) : Nat) : Int) < x_21 then (
      ((i_124 + 1) < 9223372036854775808) ∧
      ∃ x_141 : Nat → BitVec 8, kdf_Mac x_8 ([t122, x_14, ([(BitVec.ofNat 8 (i_124 + 1))] : List Byte)] : List (List Byte)) x_141 ∧
      ((32 * i_124) < 9223372036854775808) ∧
      ((32 * i_124) < 9223372036854775808) ∧
      (((32 * i_124) + 32) < 9223372036854775808) ∧
      (0 ≤ (min x_21 ((((32 * i_124) + 32) : Nat) : Int))) ∧
      ((32 * i_124) ≤ (min x_21 ((((32 * i_124) + 32) : Nat) : Int)).toNat ∧ (min x_21 ((((32 * i_124) + 32) : Nat) : Int)).toNat ≤ x_25.length) ∧
      ((32 * i_124) < 9223372036854775808) ∧
      (-9223372036854775808 ≤ (x_21 - (((32 * i_124) : Nat) : Int)) ∧ (x_21 - (((32 * i_124) : Nat) : Int)) ≤ 9223372036854775807) ∧
      (0 ≤ (min 32 (x_21 - (((32 * i_124) : Nat) : Int)))) ∧
      (0 ≤ (min 32 (x_21 - (((32 * i_124) : Nat) : Int))).toNat ∧ (min 32 (x_21 - (((32 * i_124) : Nat) : Int))).toNat ≤ (([] : List Byte) ++ (dl 32 x_141)).length) ∧
      ∃ x_162 : Bool, lethelaw03_Eq (seg l_121 (32 * i_124) ((min x_21 ((((32 * i_124) + 32) : Nat) : Int)).toNat)) (seg (([] : List Byte) ++ (dl 32 x_141)) 0 ((min 32 (x_21 - (((32 * i_124) : Nat) : Int))).toNat)) x_162 ∧
      if x_162 = true then (
        ((i_124 + 1) < 9223372036854775808) ∧
        o126 = .inl (l_121, (([] : List Byte) ++ (dl 32 x_141)), (i_124 + 1))
      ) else (
        o126 = .inr none ∧ r = false
      )
    ) else (
      o126 = .inr (some l_121)
    )
def lethelaw03_KdfExpands (prk1 : List Byte) (info2 : List Byte) (n_3 : Int) (less4 : Int) (r : Bool) : Prop :=
  ∃ x_8 : List Byte, lethelaw03_short prk1 x_8 ∧
  ∃ x_14 : List Byte, lethelaw03_short info2 x_14 ∧
  ∃ x_21 : Int, lethelaw03_rest n_3 400 x_21 ∧
  ∃ x_25 : List Byte, ∃ x_26 : Nat, kdf_Expand x_8 x_14 x_21 (x_25, x_26) ∧
  if x_26 ≠ 0 then (
    r = false
  ) else (
    if ((x_25.length : Nat) : Int) ≠ x_21 then (
      r = false
    ) else (
      ∃ x126 : Option (List Byte), Iter (lethelaw03_KdfExpands_l0 x_8 x_14 x_21 x_25 r) (x_25, ([] : List Byte), 0) x126 ∧ (∀ (l_125 : List Byte), x126 = some l_125 →
      (-9223372036854775808 ≤ (x_21 + 1) ∧ (x_21 + 1) ≤ 9223372036854775807) ∧
      ∃ x_174 : Int, lethelaw03_rest less4 (x_21 + 1) x_174 ∧
      ∃ x_178 : List Byte, ∃ x_179 : Nat, kdf_Expand x_8 x_14 x_174 (x_178, x_179) ∧
      if x_179 ≠ 0 then (
        r = false
      ) else (
        (0 ≤ x_174) ∧
        (0 ≤ x_174.toNat ∧ x_174.toNat ≤ x_25.length) ∧
        ∃ x_206 : Bool, lethelaw03_Eq x_178 (seg l_125 0 x_174.toNat) x_206 ∧
        if x_206 = true then (
          ∃ x_211 : Nat → BitVec 8, kdf_Extract x_8 x_14 x_211 ∧
          ∃ x_217 : List Byte, ∃ x_218 : Nat, kdf_Derive x_8 x_14 x_14 x_21 (x_217, x_218) ∧
          ∃ x_227 : List Byte, ∃ x_228 : Nat, kdf_Expand (dl 32 x_211) x_14 x_21 (x_227, x_228) ∧
          if x_218 = 0 then (
            if x_228 = 0 then (
              ∃ x_239 : Bool, lethelaw03_Eq x_217 x_227 x_239 ∧
              r = x_239
            ) else (
              r = false
            )
          ) else (
            r = false
          )
        ) else (
          r = false
        )
      )
      )
    )
  )
end Go.Proofs.YtjdgbahjpdopbaaDoor
