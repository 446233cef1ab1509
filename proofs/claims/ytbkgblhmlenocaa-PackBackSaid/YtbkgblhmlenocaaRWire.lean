/-
  RELATIONS of the package's functions, printed by this session's own program (auto.py).
-/
import Derived.Test.YtbkgblhmlenocaaEb
namespace Go.Proofs.Ytbkgblhmlenocaa
set_option linter.unusedSimpArgs false
set_option linter.unusedVariables false
set_option linter.unusedSectionVars false
open Go Go.LW

def wire_Join_l0 (parts1 : List (List Byte)) (s : (Nat × Nat)) (o28 : (Nat × Nat) ⊕ Nat) : Prop :=
  match s with
  | (n_25, t26) =>
    if t26 < parts1.length then (
      (t26 < parts1.length) ∧
      ((n_25 + ((parts1.getD t26 []).length)) < 9223372036854775808) ∧
      ((t26 + 1) < 9223372036854775808) ∧
      o28 = .inl ((n_25 + ((parts1.getD t26 []).length)), (t26 + 1))
    ) else (
      o28 = .inr n_25
    )
def wire_Join_l1 (parts1 : List (List Byte)) (s : ((List Byte) × Nat)) (o70 : ((List Byte) × Nat) ⊕ (List Byte)) : Prop :=
  match s with
  | (out67, t68) =>
    if t68 < parts1.length then (
      (t68 < parts1.length) ∧
      (out67.length + (parts1.getD t68 []).length ≤ 140737488355328) ∧
      ((t68 + 1) < 9223372036854775808) ∧
      o70 = .inl ((out67 ++ (parts1.getD t68 [])), (t68 + 1))
    ) else (
      o70 = .inr out67
    )
def wire_Join (parts1 : List (List Byte)) (r : (List Byte)) : Prop :=
  ∃ n_27 : Nat, Iter (wire_Join_l0 parts1) (0, 0) n_27 ∧
  (0 ≤ n_27 ∧ n_27 ≤ 281474976710656) ∧
  ∃ out69 : List Byte, Iter (wire_Join_l1 parts1) ((List.replicate 0 0#8), 0) out69 ∧
  r = out69

def wire_Blank_l0 (b1 : List Byte) (s : ((BitVec 8) × Nat)) (o26 : ((BitVec 8) × Nat) ⊕ (BitVec 8)) : Prop :=
  match s with
  | (x_23, t24) =>
    if t24 < b1.length then (
      (t24 < b1.length) ∧
      ((t24 + 1) < 9223372036854775808) ∧
      o26 = .inl ((x_23 ||| (lit b1 t24)), (t24 + 1))
    ) else (
      o26 = .inr x_23
    )
def wire_Blank (b1 : List Byte) (r : Bool) : Prop :=
  ∃ x_25 : BitVec 8, Iter (wire_Blank_l0 b1) (0#8, 0) x_25 ∧
  r = (decide (x_25 = 0#8))
end Go.Proofs.Ytbkgblhmlenocaa
