/-
  RELATIONS of the package's functions, printed by this session's own program (auto.py).
-/
import Derived.Test.YtbkgblhmlenocaaEb
import Derived.Test.YtbkgblhmlenocaaRLaw11
import Derived.Test.YtbkgblhmlenocaaRPack
namespace Go.Proofs.Ytbkgblhmlenocaa
set_option linter.unusedSimpArgs false
set_option linter.unusedVariables false
set_option linter.unusedSectionVars false
open Go Go.LW

def lethelaw11_PackBack_l0 (l_1 : List (Int × (List Byte) × (List Byte))) (r : Bool) (s : ((List (Int × (List Byte) × (List Byte))) × Nat)) (o112 : ((List (Int × (List Byte) × (List Byte))) × Nat) ⊕ (Option (List (Int × (List Byte) × (List Byte))))) : Prop :=
  match s with
  | (list108, i_110) =>
    if i_110 < l_1.length then (
      if i_110 < 60 then (
        (i_110 < l_1.length) ∧
        ∃ x_129 : Int, ∃ x_130 : List Byte, ∃ x_131 : List Byte, lethelaw11_right ((l_1.getD i_110 ((0 : Int), ([] : List Byte), ([] : List Byte))).1) ((l_1.getD i_110 ((0 : Int), ([] : List Byte), ([] : List Byte))).2.1) ((l_1.getD i_110 ((0 : Int), ([] : List Byte), ([] : List Byte))).2.2) (x_129, x_130, x_131) ∧
        ∃ x_148 : List (Int × (List Byte) × (List Byte)), ∃ x_149 : Nat, pack_Put list108 x_129 x_130 x_131 (x_148, x_149) ∧
        if x_149 ≠ 0 then (
          o112 = .inr none ∧ r = false
        ) else (
          o112 = .inl (x_148, (i_110 + 1))
        )
      ) else (
        o112 = .inr (some list108)
      )
    ) else (
      o112 = .inr (some list108)
    )
def lethelaw11_PackBack_l1 (list111 : List (Int × (List Byte) × (List Byte))) (x_177 : List (Int × (List Byte) × (List Byte))) (x_189 : List Int) (r : Bool) (s : (Int × Nat)) (o397 : (Int × Nat) ⊕ (Option Int)) : Prop :=
  match s with
  | (at_394, i_395) =>
    if i_395 < x_189.length then (
      (i_395 < x_189.length) ∧
      if (x_189.getD i_395 (0 : Int)) < 1 then (
        o397 = .inr none ∧ r = false
      ) else (
        (-9223372036854775808 ≤ (at_394 + (x_189.getD i_395 (0 : Int))) ∧ (at_394 + (x_189.getD i_395 (0 : Int))) ≤ 9223372036854775807) ∧
        if ((x_177.length : Nat) : Int) < (at_394 + (x_189.getD i_395 (0 : Int))) then (
          o397 = .inr none ∧ r = false
        ) else (
          (-9223372036854775808 ≤ (at_394 + (x_189.getD i_395 (0 : Int))) ∧ (at_394 + (x_189.getD i_395 (0 : Int))) ≤ 9223372036854775807) ∧
          (0 ≤ at_394) ∧
          (0 ≤ (at_394 + (x_189.getD i_395 (0 : Int)))) ∧
          (at_394.toNat ≤ (at_394 + (x_189.getD i_395 (0 : Int))).toNat ∧ (at_394 + (x_189.getD i_395 (0 : Int))).toNat ≤ list111.length) ∧
          ∃ x_431 : List Byte, ∃ x_432 : Nat, pack_Encode (sgl list111 at_394.toNat ((at_394 + (x_189.getD i_395 (0 : Int))).toNat)) (x_431, x_432) ∧
          ∃ x_441 : List (Int × (List Byte) × (List Byte)), ∃ x_442 : Nat, pack_Decode (x_189.getD i_395 (0 : Int)) x_431 (x_441, x_442) ∧
          if x_432 ≠ 0 then (
            o397 = .inr none ∧ r = false
          ) else (
            if x_442 ≠ 0 then (
              o397 = .inr none ∧ r = false
            ) else (
              if x_431.length ≠ 1008 then (
                o397 = .inr none ∧ r = false
              ) else (
                (-9223372036854775808 ≤ (at_394 + (x_189.getD i_395 (0 : Int))) ∧ (at_394 + (x_189.getD i_395 (0 : Int))) ≤ 9223372036854775807) ∧
                (0 ≤ at_394) ∧
                (0 ≤ (at_394 + (x_189.getD i_395 (0 : Int)))) ∧
                (at_394.toNat ≤ (at_394 + (x_189.getD i_395 (0 : Int))).toNat ∧ (at_394 + (x_189.getD i_395 (0 : Int))).toNat ≤ x_177.length) ∧
                ∃ x_486 : Bool, lethelaw11_Same x_441 (sgl x_177 at_394.toNat ((at_394 + (x_189.getD i_395 (0 : Int))).toNat)) x_486 ∧
                if x_486 = true then (
                  (-9223372036854775808 ≤ (at_394 + (x_189.getD i_395 (0 : Int))) ∧ (at_394 + (x_189.getD i_395 (0 : Int))) ≤ 9223372036854775807) ∧
                  ((i_395 + 1) < 9223372036854775808) ∧
                  o397 = .inl ((at_394 + (x_189.getD i_395 (0 : Int))), (i_395 + 1))
                ) else (
                  o397 = .inr none ∧ r = false
                )
              )
            )
          )
        )
      )
    ) else (
      o397 = .inr (some at_394)
    )
def lethelaw11_PackBack (l_1 : List (Int × (List Byte) × (List Byte))) (r : Bool) : Prop :=
  ∃ x112 : Option (List (Int × (List Byte) × (List Byte))), Iter (lethelaw11_PackBack_l0 l_1 r) (([] : List (Int × (List Byte) × (List Byte))), 0) x112 ∧ (∀ (list111 : List (Int × (List Byte) × (List Byte))), x112 = some list111 →
  ∃ x_177 : List (Int × (List Byte) × (List Byte)), lethelaw11_sorted l_1 x_177 ∧
  ∃ x_189 : List Int, ∃ x_190 : Nat, pack_Pack list111 (x_189, x_190) ∧
  if x_190 ≠ 0 then (
    r = false
  ) else (
    ∃ x_213 : Bool, lethelaw11_Same list111 x_177 x_213 ∧
    if x_213 = true then (
      if ((decide (0 < x_189.length)) != (decide (0 < x_177.length))) = true then (
        r = false
      ) else (
        ∃ x397 : Option Int, Iter (lethelaw11_PackBack_l1 list111 x_177 x_189 r) (0, 0) x397 ∧ (∀ (at_396 : Int), x397 = some at_396 →
        r = (decide (at_396 = ((x_177.length : Nat) : Int)))
        )
      )
    ) else (
      r = false
    )
  )
  )
end Go.Proofs.Ytbkgblhmlenocaa
