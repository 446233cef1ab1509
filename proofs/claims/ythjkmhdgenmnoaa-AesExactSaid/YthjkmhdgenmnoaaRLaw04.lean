/-
 RELATIONS of the package's functions, printed by this session's own program (auto.py).
-/
import Derived.Test.YthjkmhdgenmnoaaEc
namespace Go.Proofs.Ythjkmhdgenmnoaa
set_option linter.unusedSimpArgs false
set_option linter.unusedVariables false
set_option linter.unusedSectionVars false
open Go Go.LW
def lethelaw04_Room (b1 : List Byte) (r : (List Byte)) : Prop :=
 (0 + b1.length ≤ 140737488355328) ∧
 ((([] : List Byte) ++ b1).length + ([209#8, 210#8, 211#8] : List Byte).length ≤ 140737488355328) ∧
 r = ((([] : List Byte) ++ b1) ++ ([209#8, 210#8, 211#8] : List Byte))
def lethelaw04_Eq (a1 : List Byte) (b2 : List Byte) (r : Bool) : Prop :=
 r = (decide (a1 = b2))
def lethelaw04_Kept (room1 : List Byte) (b2 : List Byte) (r : Bool) : Prop :=
 ∃ x_6 : List Byte, lethelaw04_Room b2 x_6 ∧
 ∃ x_14 : Bool, lethelaw04_Eq room1 x_6 x_14 ∧
 r = x_14
def lethelaw04_Book_Note_at4_l0 (bLists2 : List (List Byte)) (l_4 : List Byte) (s : ((List Byte) × (List Byte) × Nat)) (o50 : ((List Byte) × (List Byte) × Nat) ⊕ ((List Byte) × (List Byte))) : Prop :=
 match s with
 | (l_44, want45, i_47) =>
   if i_47 < l_4.length then (
     ((((bLists2.length * 29) + 7) + i_47) < 9223372036854775808) ∧
     (i_47 < l_4.length) ∧
     (i_47 < l_4.length) ∧
     (want45.length + ([(lit (l_44.set i_47 (BitVec.ofNat 8 (((bLists2.length * 29) + 7) + i_47))) i_47)] : List Byte).length ≤ 140737488355328) ∧
     ((i_47 + 1) < 9223372036854775808) ∧
     o50 = .inl ((l_44.set i_47 (BitVec.ofNat 8 (((bLists2.length * 29) + 7) + i_47))), (want45 ++ ([(lit (l_44.set i_47 (BitVec.ofNat 8 (((bLists2.length * 29) + 7) + i_47))) i_47)] : List Byte)), (i_47 + 1))
   ) else (
     o50 = .inr (l_44, want45)
   )
def lethelaw04_Book_Note_at4 (bLists2 : List (List Byte)) (bWant3 : List (List Byte)) (l_4 : List Byte) (r : ((List (List Byte)) × (List (List Byte)))) : Prop :=
 ((bLists2.length * 29) < 9223372036854775808) ∧
 (((bLists2.length * 29) + 7) < 9223372036854775808) ∧
 ∃ l_48 : List Byte, ∃ want49 : List Byte, Iter (lethelaw04_Book_Note_at4_l0 bLists2 l_4) (l_4, ([] : List Byte), 0) (l_48, want49) ∧
 ((((bLists2.length * 29) + 7) * 3) < 9223372036854775808) ∧
 (((((bLists2.length * 29) + 7) * 3) + 1) < 9223372036854775808) ∧
 (l_4.length + ([(BitVec.ofNat 8 ((((bLists2.length * 29) + 7) * 3) + 1)), (BitVec.ofNat 8 ((((bLists2.length * 29) + 7) * 3) + 1)), (BitVec.ofNat 8 ((((bLists2.length * 29) + 7) * 3) + 1))] : List Byte).length ≤ 140737488355328) ∧
 ((bLists2.length + ([l_48, (l_48 ++ ([(BitVec.ofNat 8 ((((bLists2.length * 29) + 7) * 3) + 1)), (BitVec.ofNat 8 ((((bLists2.length * 29) + 7) * 3) + 1)), (BitVec.ofNat 8 ((((bLists2.length * 29) + 7) * 3) + 1))] : List Byte))] : List (List Byte)).length) * 24 ≤ 140737488355328 ∧ bLists2.length + ([l_48, (l_48 ++ ([(BitVec.ofNat 8 ((((bLists2.length * 29) + 7) * 3) + 1)), (BitVec.ofNat 8 ((((bLists2.length * 29) + 7) * 3) + 1)), (BitVec.ofNat 8 ((((bLists2.length * 29) + 7) * 3) + 1))] : List Byte))] : List (List Byte)).length < 9223372036854775808) ∧
 (want49.length + ([(BitVec.ofNat 8 ((((bLists2.length * 29) + 7) * 3) + 1)), (BitVec.ofNat 8 ((((bLists2.length * 29) + 7) * 3) + 1)), (BitVec.ofNat 8 ((((bLists2.length * 29) + 7) * 3) + 1))] : List Byte).length ≤ 140737488355328) ∧
 ((bWant3.length + ([want49, (want49 ++ ([(BitVec.ofNat 8 ((((bLists2.length * 29) + 7) * 3) + 1)), (BitVec.ofNat 8 ((((bLists2.length * 29) + 7) * 3) + 1)), (BitVec.ofNat 8 ((((bLists2.length * 29) + 7) * 3) + 1))] : List Byte))] : List (List Byte)).length) * 24 ≤ 140737488355328 ∧ bWant3.length + ([want49, (want49 ++ ([(BitVec.ofNat 8 ((((bLists2.length * 29) + 7) * 3) + 1)), (BitVec.ofNat 8 ((((bLists2.length * 29) + 7) * 3) + 1)), (BitVec.ofNat 8 ((((bLists2.length * 29) + 7) * 3) + 1))] : List Byte))] : List (List Byte)).length < 9223372036854775808) ∧
 r = ((bLists2 ++ ([l_48, (l_48 ++ ([(BitVec.ofNat 8 ((((bLists2.length * 29) + 7) * 3) + 1)), (BitVec.ofNat 8 ((((bLists2.length * 29) + 7) * 3) + 1)), (BitVec.ofNat 8 ((((bLists2.length * 29) + 7) * 3) + 1))] : List Byte))] : List (List Byte))), (bWant3 ++ ([want49, (want49 ++ ([(BitVec.ofNat 8 ((((bLists2.length * 29) + 7) * 3) + 1)), (BitVec.ofNat 8 ((((bLists2.length * 29) + 7) * 3) + 1)), (BitVec.ofNat 8 ((((bLists2.length * 29) + 7) * 3) + 1))] : List Byte))] : List (List Byte))))
def lethelaw04_Book_Holds_at4_l0 (bLists2 : List (List Byte)) (bWant3 : List (List Byte)) (r : Bool) (i_39 : Nat) (o40 : Nat ⊕ (Option Unit)) : Prop :=
 if i_39 < bLists2.length then (
   (i_39 < bLists2.length) ∧
   (i_39 < bWant3.length) ∧
   ∃ x_53 : Bool, lethelaw04_Eq ((bLists2.getD i_39 ([] : List Byte))) ((bWant3.getD i_39 ([] : List Byte))) x_53 ∧
   if x_53 = true then (
     ((i_39 + 1) < 9223372036854775808) ∧
     o40 = .inl (i_39 + 1)
   ) else (
     o40 = .inr none ∧ r = false
   )
 ) else (
   o40 = .inr (some ())
 )
def lethelaw04_Book_Holds_at4 (bLists2 : List (List Byte)) (bWant3 : List (List Byte)) (r : Bool) : Prop :=
 ∃ x40 : Option Unit, Iter (lethelaw04_Book_Holds_at4_l0 bLists2 bWant3 r) 0 x40 ∧ (x40 = some () →
 r = true
 )
end Go.Proofs.Ythjkmhdgenmnoaa
