/-
  RELATIONS of the package's functions, printed by this session's own program (auto.py).
-/
import Derived.Test.YtjdgbahjpdopbaaDoorLx9
import Derived.Test.YtjdgbahjpdopbaaDoorShaM
import Derived.Test.YtjdgbahjpdopbaaDoorRKdf
namespace Go.Proofs.YtjdgbahjpdopbaaDoor
set_option linter.unusedSimpArgs false
set_option linter.unusedVariables false
set_option linter.unusedSectionVars false
open Go Go.LW

def chain_Step (key1 : Nat → BitVec 8) (r : ((Nat → BitVec 8) × (Nat → BitVec 8))) : Prop :=
  ∃ x_12 : Nat → BitVec 8, kdf_Mac (dl 32 key1) ([([2#8] : List Byte)] : List (List Byte)) x_12 ∧
  ∃ x_18 : Nat → BitVec 8, kdf_Mac (dl 32 key1) ([([1#8] : List Byte)] : List (List Byte)) x_18 ∧
  ∃ x_24 : Nat → BitVec 8, kdf_Mac (dl 32 key1) ([([2#8] : List Byte)] : List (List Byte)) x_24 ∧
  ∃ x_29 : Nat → BitVec 8, kdf_Mac (dl 32 key1) ([([1#8] : List Byte)] : List (List Byte)) x_29 ∧
  ∃ x_36 : Nat → BitVec 8, kdf_Mac (dl 32 key1) ([([2#8] : List Byte)] : List (List Byte)) x_36 ∧
  ∃ x_39 : Nat → BitVec 8, kdf_Mac (dl 32 key1) ([([1#8] : List Byte)] : List (List Byte)) x_39 ∧
  ∃ x_47 : Nat → BitVec 8, kdf_Mac (dl 32 key1) ([([2#8] : List Byte)] : List (List Byte)) x_47 ∧
  ∃ x_52 : Nat → BitVec 8, kdf_Mac (dl 32 key1) ([([1#8] : List Byte)] : List (List Byte)) x_52 ∧
  ∃ x_59 : Nat → BitVec 8, kdf_Mac (dl 32 key1) ([([2#8] : List Byte)] : List (List Byte)) x_59 ∧
  ∃ x_62 : Nat → BitVec 8, kdf_Mac (dl 32 key1) ([([1#8] : List Byte)] : List (List Byte)) x_62 ∧
  ∃ x_71 : Nat → BitVec 8, kdf_Mac (dl 32 key1) ([([2#8] : List Byte)] : List (List Byte)) x_71 ∧
  ∃ x_74 : Nat → BitVec 8, kdf_Mac (dl 32 key1) ([([1#8] : List Byte)] : List (List Byte)) x_74 ∧
  r = (x_71, x_74)

def chain_Ahead_l0 (n_2 : Int) (s : ((List (Nat → BitVec 8)) × Nat × (Nat → BitVec 8))) (o72 : ((List (Nat → BitVec 8)) × Nat × (Nat → BitVec 8)) ⊕ ((List (Nat → BitVec 8)) × (Nat → BitVec 8))) : Prop :=
  match s with
  | (messages66, t68, m69) =>
    if ((t68 : Nat) : Int) < n_2 then (
      ∃ x_83 : Nat → BitVec 8, ∃ x_84 : Nat → BitVec 8, chain_Step m69 (x_83, x_84) ∧
      ((messages66.length + ([x_84] : List (Nat → BitVec 8)).length) * 32 ≤ 140737488355328 ∧ messages66.length + ([x_84] : List (Nat → BitVec 8)).length < 9223372036854775808) ∧
      o72 = .inl ((messages66 ++ ([x_84] : List (Nat → BitVec 8))), (t68 + 1), x_83)
    ) else (
      o72 = .inr (messages66, m69)
    )
def chain_Ahead (key1 : Nat → BitVec 8) (n_2 : Int) (r : ((Nat → BitVec 8) × (List (Nat → BitVec 8)) × Nat)) : Prop :=
  if n_2 < 0 then (
    r = ((fun _ => 0#8), ([] : List (Nat → BitVec 8)), 4)
  ) else (
    if 256 < n_2 then (
      r = ((fun _ => 0#8), ([] : List (Nat → BitVec 8)), 4)
    ) else (
      ∃ messages70 : List (Nat → BitVec 8), ∃ m71 : Nat → BitVec 8, Iter (chain_Ahead_l0 n_2) (([] : List (Nat → BitVec 8)), 0, key1) (messages70, m71) ∧
      r = (m71, messages70, 0)
    )
  )

def chain_Root (root1 : Nat → BitVec 8) (shared2 : Nat → BitVec 8) (r : ((Nat → BitVec 8) × (Nat → BitVec 8))) : Prop :=
  ∃ x_12 : List Byte, ∃ x_13 : Nat, kdf_Derive (dl 32 root1) (dl 32 shared2) (dl 10 (lit ([108#8, 101#8, 116#8, 104#8, 101#8, 32#8, 114#8, 111#8, 111#8, 116#8] : List Byte))) 64 (x_12, x_13) ∧
  (32 ≤ x_12.length ∧ x_12.length ≤ x_12.length) ∧
  r = ((spl (fun _ => 0#8) 0 (min x_12.length 32) (lit x_12)), (spl (fun _ => 0#8) 0 (min (x_12.length - 32) 32) (lit (seg x_12 32 x_12.length))))
end Go.Proofs.YtjdgbahjpdopbaaDoor
