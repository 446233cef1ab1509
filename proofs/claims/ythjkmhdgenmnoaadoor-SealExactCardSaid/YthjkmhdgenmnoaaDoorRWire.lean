/-
 RELATIONS of the package's functions, printed by this session's own program (auto.py).
-/
import Derived.Test.YthjkmhdgenmnoaaDoorEc
import Derived.Test.YthjkmhdgenmnoaaDoorShaM
namespace Go.Proofs.YthjkmhdgenmnoaaDoor
set_option linter.unusedSimpArgs false
set_option linter.unusedVariables false
set_option linter.unusedSectionVars false
open Go Go.LW
def wire_Join_l0 (parts1 : List (List Byte)) (s : (Nat × Nat)) (o28 : (Nat × Nat) ⊕ Nat) : Prop :=
 match s with
 | (n_25, t26) =>
   if t26 < parts1.length then (
     (t26 < parts1.length) ∧
     ((n_25 + ((parts1.getD t26 []).length)) < 9223372036854775808) ∧
     ((t26 + 1) < 9223372036854775808) ∧
     o28 = .inl ((n_25 + ((parts1.getD t26 []).length)), (t26 + 1))
   ) else (
     o28 = .inr n_25
   )
def wire_Join_l1 (parts1 : List (List Byte)) (s : ((List Byte) × Nat)) (o70 : ((List Byte) × Nat) ⊕ (List Byte)) : Prop :=
 match s with
 | (out67, t68) =>
   if t68 < parts1.length then (
     (t68 < parts1.length) ∧
     (out67.length + (parts1.getD t68 []).length ≤ 140737488355328) ∧
     ((t68 + 1) < 9223372036854775808) ∧
     o70 = .inl ((out67 ++ (parts1.getD t68 [])), (t68 + 1))
   ) else (
     o70 = .inr out67
   )
def wire_Join (parts1 : List (List Byte)) (r : (List Byte)) : Prop :=
 ∃ n_27 : Nat, Iter (wire_Join_l0 parts1) (0, 0) n_27 ∧
 (0 ≤ n_27 ∧ n_27 ≤ 281474976710656) ∧
 ∃ out69 : List Byte, Iter (wire_Join_l1 parts1) ((List.replicate 0 0#8), 0) out69 ∧
 r = out69
def wire_Same_l0 (a1 : List Byte) (b2 : List Byte) (s : ((BitVec 8) × Nat)) (o37 : ((BitVec 8) × Nat) ⊕ (BitVec 8)) : Prop :=
 match s with
 | (x_34, t35) =>
   if t35 < a1.length then (
     (t35 < a1.length) ∧
     (t35 < b2.length) ∧
     ((t35 + 1) < 9223372036854775808) ∧
     o37 = .inl ((x_34 ||| ((lit a1 t35) ^^^ (lit b2 t35))), (t35 + 1))
   ) else (
     o37 = .inr x_34
   )
def wire_Same (a1 : List Byte) (b2 : List Byte) (r : Bool) : Prop :=
 if a1.length ≠ b2.length then (
   r = false
 ) else (
   ∃ x_36 : BitVec 8, Iter (wire_Same_l0 a1 b2) (0#8, 0) x_36 ∧
   r = (decide (x_36 = 0#8))
 )
end Go.Proofs.YthjkmhdgenmnoaaDoor
