/-
 RELATIONS of the package's functions, printed by this session's own program (auto.py).
-/
import Derived.Test.YtjdgbahjpdopbaaDoorEb
import Derived.Test.YtjdgbahjpdopbaaDoorShaM
import Derived.Test.YtjdgbahjpdopbaaDoorRLaw02
import Derived.Test.YtjdgbahjpdopbaaDoorRRef02
import Derived.Test.YtjdgbahjpdopbaaDoorRSha
namespace Go.Proofs.YtjdgbahjpdopbaaDoor
set_option linter.unusedSimpArgs false
set_option linter.unusedVariables false
set_option linter.unusedSectionVars false
open Go Go.LW
def lethelaw02_ShaExact_l1 (x_11629 : List Byte) (s : ((List Byte) × Nat)) (o11679 : ((List Byte) × Nat) ⊕ Unit) : Prop :=
 match s with
 | (x_11677, i_11678) =>
   if i_11678 < x_11629.length then (
     (i_11678 < x_11629.length) ∧
     ((i_11678 + 1) < 9223372036854775808) ∧
     o11679 = .inl ((x_11677.set i_11678 (85#8)), (i_11678 + 1))
   ) else (
     o11679 = .inr ()
   )
def lethelaw02_ShaExact_l2 (x_11629 : List Byte) (s : ((List Byte) × Nat)) (o11735 : ((List Byte) × Nat) ⊕ Unit) : Prop :=
 match s with
 | (x_11733, i_11734) =>
   if i_11734 < x_11629.length then (
     (i_11734 < x_11629.length) ∧
     ((i_11734 + 1) < 9223372036854775808) ∧
     o11735 = .inl ((x_11733.set i_11734 (85#8)), (i_11734 + 1))
   ) else (
     o11735 = .inr ()
   )
def lethelaw02_ShaExact_l3 (x_11629 : List Byte) (s : ((List Byte) × Nat)) (o11791 : ((List Byte) × Nat) ⊕ Unit) : Prop :=
 match s with
 | (x_11789, i_11790) =>
   if i_11790 < x_11629.length then (
     (i_11790 < x_11629.length) ∧
     ((i_11790 + 1) < 9223372036854775808) ∧
     o11791 = .inl ((x_11789.set i_11790 (85#8)), (i_11790 + 1))
   ) else (
     o11791 = .inr ()
   )
def lethelaw02_ShaExact_l0 (script1 : List (Int × Int × Int × (List Byte) × (List Byte) × (Nat → BitVec 32) × (Nat → BitVec 8))) (r : Bool) (s : (Nat × (Nat → BitVec 32) × (Nat → BitVec 8) × Int × (Nat → BitVec 32) × (Nat → BitVec 8) × Int × (Nat → BitVec 32) × (Nat → BitVec 8) × Int × (List Byte) × (List Byte) × (List Byte))) (o8163 : (Nat × (Nat → BitVec 32) × (Nat → BitVec 8) × Int × (Nat → BitVec 32) × (Nat → BitVec 8) × Int × (Nat → BitVec 32) × (Nat → BitVec 8) × Int × (List Byte) × (List Byte) × (List Byte)) ⊕ (Option ((Nat → BitVec 32) × (Nat → BitVec 8) × Int × (Nat → BitVec 32) × (Nat → BitVec 8) × Int × (Nat → BitVec 32) × (Nat → BitVec 8) × Int × (List Byte) × (List Byte) × (List Byte)))) : Prop :=
 match s with
 | (i_8129, m8131, m8132, m8133, m8135, m8136, m8137, m8139, m8140, m8141, m8142, m8144, m8146) =>
   if i_8129 < script1.length then (
     if i_8129 < 60 then (
       (i_8129 < script1.length) ∧
       ∃ script10106 : Bool, ∃ m10108 : Nat → BitVec 32, ∃ m10109 : Nat → BitVec 8, ∃ m10110 : Int, ∃ m10112 : Nat → BitVec 32, ∃ m10113 : Nat → BitVec 8, ∃ m10114 : Int, ∃ m10116 : Nat → BitVec 32, ∃ m10117 : Nat → BitVec 8, ∃ m10118 : Int, ∃ m10119 : List Byte, ∃ m10120 : List Byte, ∃ m10121 : List Byte, (
         if (script1.getD i_8129 ((0 : Int), (0 : Int), (0 : Int), ([] : List Byte), ([] : List Byte), (fun _ => 0#32), (fun _ => 0#8))).1 = 1 then (
           (0 + ((script1.getD i_8129 ((0 : Int), (0 : Int), (0 : Int), ([] : List Byte), ([] : List Byte), (fun _ => 0#32), (fun _ => 0#8))).2.2.2.1).length ≤ 140737488355328) ∧
           ((([] : List Byte) ++ ((script1.getD i_8129 ((0 : Int), (0 : Int), (0 : Int), ([] : List Byte), ([] : List Byte), (fun _ => 0#32), (fun _ => 0#8))).2.2.2.1)).length + ((script1.getD i_8129 ((0 : Int), (0 : Int), (0 : Int), ([] : List Byte), ([] : List Byte), (fun _ => 0#32), (fun _ => 0#8))).2.2.2.2.1).length ≤ 140737488355328) ∧
           (((([] : List Byte) ++ ((script1.getD i_8129 ((0 : Int), (0 : Int), (0 : Int), ([] : List Byte), ([] : List Byte), (fun _ => 0#32), (fun _ => 0#8))).2.2.2.1)) ++ ((script1.getD i_8129 ((0 : Int), (0 : Int), (0 : Int), ([] : List Byte), ([] : List Byte), (fun _ => 0#32), (fun _ => 0#8))).2.2.2.2.1)).length + ((script1.getD i_8129 ((0 : Int), (0 : Int), (0 : Int), ([] : List Byte), ([] : List Byte), (fun _ => 0#32), (fun _ => 0#8))).2.2.2.1).length ≤ 140737488355328) ∧
           (0 + ((script1.getD i_8129 ((0 : Int), (0 : Int), (0 : Int), ([] : List Byte), ([] : List Byte), (fun _ => 0#32), (fun _ => 0#8))).2.2.2.1).length ≤ 140737488355328) ∧
           ((([] : List Byte) ++ ((script1.getD i_8129 ((0 : Int), (0 : Int), (0 : Int), ([] : List Byte), ([] : List Byte), (fun _ => 0#32), (fun _ => 0#8))).2.2.2.1)).length + ((script1.getD i_8129 ((0 : Int), (0 : Int), (0 : Int), ([] : List Byte), ([] : List Byte), (fun _ => 0#32), (fun _ => 0#8))).2.2.2.2.1).length ≤ 140737488355328) ∧
           ∃ x_10146 : List Byte, lethelaw02_Room ((([] : List Byte) ++ ((script1.getD i_8129 ((0 : Int), (0 : Int), (0 : Int), ([] : List Byte), ([] : List Byte), (fun _ => 0#32), (fun _ => 0#8))).2.2.2.1)) ++ ((script1.getD i_8129 ((0 : Int), (0 : Int), (0 : Int), ([] : List Byte), ([] : List Byte), (fun _ => 0#32), (fun _ => 0#8))).2.2.2.2.1)) x_10146 ∧
           (0 ≤ ((script1.getD i_8129 ((0 : Int), (0 : Int), (0 : Int), ([] : List Byte), ([] : List Byte), (fun _ => 0#32), (fun _ => 0#8))).2.2.2.1).length ∧ ((script1.getD i_8129 ((0 : Int), (0 : Int), (0 : Int), ([] : List Byte), ([] : List Byte), (fun _ => 0#32), (fun _ => 0#8))).2.2.2.1).length ≤ x_10146.length) ∧
           (((((script1.getD i_8129 ((0 : Int), (0 : Int), (0 : Int), ([] : List Byte), ([] : List Byte), (fun _ => 0#32), (fun _ => 0#8))).2.2.2.1).length) + (((script1.getD i_8129 ((0 : Int), (0 : Int), (0 : Int), ([] : List Byte), ([] : List Byte), (fun _ => 0#32), (fun _ => 0#8))).2.2.2.2.1).length)) < 9223372036854775808) ∧
           (((script1.getD i_8129 ((0 : Int), (0 : Int), (0 : Int), ([] : List Byte), ([] : List Byte), (fun _ => 0#32), (fun _ => 0#8))).2.2.2.1).length ≤ ((((script1.getD i_8129 ((0 : Int), (0 : Int), (0 : Int), ([] : List Byte), ([] : List Byte), (fun _ => 0#32), (fun _ => 0#8))).2.2.2.1).length) + (((script1.getD i_8129 ((0 : Int), (0 : Int), (0 : Int), ([] : List Byte), ([] : List Byte), (fun _ => 0#32), (fun _ => 0#8))).2.2.2.2.1).length)) ∧ ((((script1.getD i_8129 ((0 : Int), (0 : Int), (0 : Int), ([] : List Byte), ([] : List Byte), (fun _ => 0#32), (fun _ => 0#8))).2.2.2.1).length) + (((script1.getD i_8129 ((0 : Int), (0 : Int), (0 : Int), ([] : List Byte), ([] : List Byte), (fun _ => 0#32), (fun _ => 0#8))).2.2.2.2.1).length)) ≤ x_10146.length) ∧
           (0 ≤ ((script1.getD i_8129 ((0 : Int), (0 : Int), (0 : Int), ([] : List Byte), ([] : List Byte), (fun _ => 0#32), (fun _ => 0#8))).2.2.2.1).length ∧ ((script1.getD i_8129 ((0 : Int), (0 : Int), (0 : Int), ([] : List Byte), ([] : List Byte), (fun _ => 0#32), (fun _ => 0#8))).2.2.2.1).length ≤ x_10146.length) ∧
           ∃ x_10167 : Nat → BitVec 8, sha_Sum ([(seg x_10146 0 (((script1.getD i_8129 ((0 : Int), (0 : Int), (0 : Int), ([] : List Byte), ([] : List Byte), (fun _ => 0#32), (fun _ => 0#8))).2.2.2.1).length)), (seg x_10146 (((script1.getD i_8129 ((0 : Int), (0 : Int), (0 : Int), ([] : List Byte), ([] : List Byte), (fun _ => 0#32), (fun _ => 0#8))).2.2.2.1).length) ((((script1.getD i_8129 ((0 : Int), (0 : Int), (0 : Int), ([] : List Byte), ([] : List Byte), (fun _ => 0#32), (fun _ => 0#8))).2.2.2.1).length) + (((script1.getD i_8129 ((0 : Int), (0 : Int), (0 : Int), ([] : List Byte), ([] : List Byte), (fun _ => 0#32), (fun _ => 0#8))).2.2.2.2.1).length))), (seg x_10146 0 (((script1.getD i_8129 ((0 : Int), (0 : Int), (0 : Int), ([] : List Byte), ([] : List Byte), (fun _ => 0#32), (fun _ => 0#8))).2.2.2.1).length))] : List (List Byte)) x_10167 ∧
           ∃ x_10174 : Nat → BitVec 8, letheref02_Sum (((([] : List Byte) ++ ((script1.getD i_8129 ((0 : Int), (0 : Int), (0 : Int), ([] : List Byte), ([] : List Byte), (fun _ => 0#32), (fun _ => 0#8))).2.2.2.1)) ++ ((script1.getD i_8129 ((0 : Int), (0 : Int), (0 : Int), ([] : List Byte), ([] : List Byte), (fun _ => 0#32), (fun _ => 0#8))).2.2.2.2.1)) ++ ((script1.getD i_8129 ((0 : Int), (0 : Int), (0 : Int), ([] : List Byte), ([] : List Byte), (fun _ => 0#32), (fun _ => 0#8))).2.2.2.1)) x_10174 ∧
           if (eqB 32 x_10167 x_10174) = true then (
             (0 + ((script1.getD i_8129 ((0 : Int), (0 : Int), (0 : Int), ([] : List Byte), ([] : List Byte), (fun _ => 0#32), (fun _ => 0#8))).2.2.2.1).length ≤ 140737488355328) ∧
             ((([] : List Byte) ++ ((script1.getD i_8129 ((0 : Int), (0 : Int), (0 : Int), ([] : List Byte), ([] : List Byte), (fun _ => 0#32), (fun _ => 0#8))).2.2.2.1)).length + ((script1.getD i_8129 ((0 : Int), (0 : Int), (0 : Int), ([] : List Byte), ([] : List Byte), (fun _ => 0#32), (fun _ => 0#8))).2.2.2.2.1).length ≤ 140737488355328) ∧
             ∃ x_10183 : Bool, lethelaw02_Kept x_10146 ((([] : List Byte) ++ ((script1.getD i_8129 ((0 : Int), (0 : Int), (0 : Int), ([] : List Byte), ([] : List Byte), (fun _ => 0#32), (fun _ => 0#8))).2.2.2.1)) ++ ((script1.getD i_8129 ((0 : Int), (0 : Int), (0 : Int), ([] : List Byte), ([] : List Byte), (fun _ => 0#32), (fun _ => 0#8))).2.2.2.2.1)) x_10183 ∧
             script10106 = x_10183 ∧ m10108 = m8131 ∧ m10109 = m8132 ∧ m10110 = m8133 ∧ m10112 = m8135 ∧ m10113 = m8136 ∧ m10114 = m8137 ∧ m10116 = m8139 ∧ m10117 = m8140 ∧ m10118 = m8141 ∧ m10119 = m8142 ∧ m10120 = m8144 ∧ m10121 = m8146
           ) else (
             script10106 = false ∧ m10108 = m8131 ∧ m10109 = m8132 ∧ m10110 = m8133 ∧ m10112 = m8135 ∧ m10113 = m8136 ∧ m10114 = m8137 ∧ m10116 = m8139 ∧ m10117 = m8140 ∧ m10118 = m8141 ∧ m10119 = m8142 ∧ m10120 = m8144 ∧ m10121 = m8146
           )
         ) else (
           if (script1.getD i_8129 ((0 : Int), (0 : Int), (0 : Int), ([] : List Byte), ([] : List Byte), (fun _ => 0#32), (fun _ => 0#8))).1 = 2 then (
             ∃ x_10192 : Nat → BitVec 32, sha_Compress ((script1.getD i_8129 ((0 : Int), (0 : Int), (0 : Int), ([] : List Byte), ([] : List Byte), (fun _ => 0#32), (fun _ => 0#8))).2.2.2.2.2.1) ((script1.getD i_8129 ((0 : Int), (0 : Int), (0 : Int), ([] : List Byte), ([] : List Byte), (fun _ => 0#32), (fun _ => 0#8))).2.2.2.2.2.2) x_10192 ∧
             ∃ x_10195 : Nat → BitVec 32, letheref02_Block ((script1.getD i_8129 ((0 : Int), (0 : Int), (0 : Int), ([] : List Byte), ([] : List Byte), (fun _ => 0#32), (fun _ => 0#8))).2.2.2.2.2.1) ((script1.getD i_8129 ((0 : Int), (0 : Int), (0 : Int), ([] : List Byte), ([] : List Byte), (fun _ => 0#32), (fun _ => 0#8))).2.2.2.2.2.2) x_10195 ∧
             script10106 = (eqB 8 x_10192 x_10195) ∧ m10108 = m8131 ∧ m10109 = m8132 ∧ m10110 = m8133 ∧ m10112 = m8135 ∧ m10113 = m8136 ∧ m10114 = m8137 ∧ m10116 = m8139 ∧ m10117 = m8140 ∧ m10118 = m8141 ∧ m10119 = m8142 ∧ m10120 = m8144 ∧ m10121 = m8146
           ) else (
             ∃ t11112 : Bool, ∃ m11114 : Nat → BitVec 32, ∃ m11115 : Nat → BitVec 8, ∃ m11116 : Int, ∃ m11118 : Nat → BitVec 32, ∃ m11119 : Nat → BitVec 8, ∃ m11120 : Int, ∃ m11122 : Nat → BitVec 32, ∃ m11123 : Nat → BitVec 8, ∃ m11124 : Int, ∃ m11125 : List Byte, ∃ m11126 : List Byte, ∃ m11127 : List Byte, (
               ∃ x_11134 : Int, lethelaw02_rest ((script1.getD i_8129 ((0 : Int), (0 : Int), (0 : Int), ([] : List Byte), ([] : List Byte), (fun _ => 0#32), (fun _ => 0#8))).2.1) 3 x_11134 ∧
               ∃ x_11137 : Int, lethelaw02_rest ((script1.getD i_8129 ((0 : Int), (0 : Int), (0 : Int), ([] : List Byte), ([] : List Byte), (fun _ => 0#32), (fun _ => 0#8))).2.2.1) 3 x_11137 ∧
               ∃ ok11584 : Bool, ∃ w_11561 : Int, ∃ to11562 : Int, ∃ m11564 : Nat → BitVec 32, ∃ m11565 : Nat → BitVec 8, ∃ m11566 : Int, ∃ m11568 : Nat → BitVec 32, ∃ m11569 : Nat → BitVec 8, ∃ m11570 : Int, ∃ m11572 : Nat → BitVec 32, ∃ m11573 : Nat → BitVec 8, ∃ m11574 : Int, ∃ m11575 : List Byte, ∃ m11578 : List Byte, ∃ m11581 : List Byte, (
                 if (script1.getD i_8129 ((0 : Int), (0 : Int), (0 : Int), ([] : List Byte), ([] : List Byte), (fun _ => 0#32), (fun _ => 0#8))).1 = 3 then (
                   if x_11134 = 0 then (
                     ∃ x_11592 : Nat → BitVec 32, ∃ x_11593 : Nat → BitVec 8, ∃ x_11594 : Nat, sha_New (x_11592, x_11593, x_11594) ∧
                     ok11584 = true ∧ w_11561 = 0 ∧ to11562 = x_11137 ∧ m11564 = x_11592 ∧ m11565 = x_11593 ∧ m11566 = ((x_11594 : Nat) : Int) ∧ m11568 = m8135 ∧ m11569 = m8136 ∧ m11570 = m8137 ∧ m11572 = m8139 ∧ m11573 = m8140 ∧ m11574 = m8141 ∧ m11575 = ([] : List Byte) ∧ m11578 = m8144 ∧ m11581 = m8146
                   ) else (
                     if x_11134 = 1 then (
                       ∃ x_11604 : Nat → BitVec 32, ∃ x_11605 : Nat → BitVec 8, ∃ x_11606 : Nat, sha_New (x_11604, x_11605, x_11606) ∧
                       ok11584 = true ∧ w_11561 = 1 ∧ to11562 = x_11137 ∧ m11564 = m8131 ∧ m11565 = m8132 ∧ m11566 = m8133 ∧ m11568 = x_11604 ∧ m11569 = x_11605 ∧ m11570 = ((x_11606 : Nat) : Int) ∧ m11572 = m8139 ∧ m11573 = m8140 ∧ m11574 = m8141 ∧ m11575 = m8142 ∧ m11578 = ([] : List Byte) ∧ m11581 = m8146
                     ) else (
                       (x_11134 = 2) ∧
                       ∃ x_11616 : Nat → BitVec 32, ∃ x_11617 : Nat → BitVec 8, ∃ x_11618 : Nat, sha_New (x_11616, x_11617, x_11618) ∧
                       ok11584 = true ∧ w_11561 = 2 ∧ to11562 = x_11137 ∧ m11564 = m8131 ∧ m11565 = m8132 ∧ m11566 = m8133 ∧ m11568 = m8135 ∧ m11569 = m8136 ∧ m11570 = m8137 ∧ m11572 = x_11616 ∧ m11573 = x_11617 ∧ m11574 = ((x_11618 : Nat) : Int) ∧ m11575 = m8142 ∧ m11578 = m8144 ∧ m11581 = ([] : List Byte)
                     )
                   )
                 ) else (
                   if (script1.getD i_8129 ((0 : Int), (0 : Int), (0 : Int), ([] : List Byte), ([] : List Byte), (fun _ => 0#32), (fun _ => 0#8))).1 = 4 then (
                     ∃ x_11629 : List Byte, lethelaw02_Room ((script1.getD i_8129 ((0 : Int), (0 : Int), (0 : Int), ([] : List Byte), ([] : List Byte), (fun _ => 0#32), (fun _ => 0#8))).2.2.2.1) x_11629 ∧
                     if x_11134 = 0 then (
                       (0 ≤ ((script1.getD i_8129 ((0 : Int), (0 : Int), (0 : Int), ([] : List Byte), ([] : List Byte), (fun _ => 0#32), (fun _ => 0#8))).2.2.2.1).length ∧ ((script1.getD i_8129 ((0 : Int), (0 : Int), (0 : Int), ([] : List Byte), ([] : List Byte), (fun _ => 0#32), (fun _ => 0#8))).2.2.2.1).length ≤ x_11629.length) ∧
                       ∃ x_11643 : Nat → BitVec 32, ∃ x_11644 : Nat → BitVec 8, ∃ x_11645 : Int, sha_Hash_Write m8131 m8132 m8133 (seg x_11629 0 (((script1.getD i_8129 ((0 : Int), (0 : Int), (0 : Int), ([] : List Byte), ([] : List Byte), (fun _ => 0#32), (fun _ => 0#8))).2.2.2.1).length)) (x_11643, x_11644, x_11645) ∧
                       (0 + m8142.length ≤ 140737488355328) ∧
                       ((([] : List Byte) ++ m8142).length + ((script1.getD i_8129 ((0 : Int), (0 : Int), (0 : Int), ([] : List Byte), ([] : List Byte), (fun _ => 0#32), (fun _ => 0#8))).2.2.2.1).length ≤ 140737488355328) ∧
                       ∃ x_11657 : Bool, lethelaw02_Kept x_11629 ((script1.getD i_8129 ((0 : Int), (0 : Int), (0 : Int), ([] : List Byte), ([] : List Byte), (fun _ => 0#32), (fun _ => 0#8))).2.2.2.1) x_11657 ∧
                       Iter (lethelaw02_ShaExact_l1 x_11629) (x_11629, 0) () ∧
                       ok11584 = false ∧ t11112 = x_11657 ∧ m11114 = x_11643 ∧ m11115 = x_11644 ∧ m11116 = x_11645 ∧ m11118 = m8135 ∧ m11119 = m8136 ∧ m11120 = m8137 ∧ m11122 = m8139 ∧ m11123 = m8140 ∧ m11124 = m8141 ∧ m11125 = ((([] : List Byte) ++ m8142) ++ ((script1.getD i_8129 ((0 : Int), (0 : Int), (0 : Int), ([] : List Byte), ([] : List Byte), (fun _ => 0#32), (fun _ => 0#8))).2.2.2.1)) ∧ m11126 = m8144 ∧ m11127 = m8146
                     ) else (
                       if x_11134 = 1 then (
                         (0 ≤ ((script1.getD i_8129 ((0 : Int), (0 : Int), (0 : Int), ([] : List Byte), ([] : List Byte), (fun _ => 0#32), (fun _ => 0#8))).2.2.2.1).length ∧ ((script1.getD i_8129 ((0 : Int), (0 : Int), (0 : Int), ([] : List Byte), ([] : List Byte), (fun _ => 0#32), (fun _ => 0#8))).2.2.2.1).length ≤ x_11629.length) ∧
                         ∃ x_11699 : Nat → BitVec 32, ∃ x_11700 : Nat → BitVec 8, ∃ x_11701 : Int, sha_Hash_Write m8135 m8136 m8137 (seg x_11629 0 (((script1.getD i_8129 ((0 : Int), (0 : Int), (0 : Int), ([] : List Byte), ([] : List Byte), (fun _ => 0#32), (fun _ => 0#8))).2.2.2.1).length)) (x_11699, x_11700, x_11701) ∧
                         (0 + m8144.length ≤ 140737488355328) ∧
                         ((([] : List Byte) ++ m8144).length + ((script1.getD i_8129 ((0 : Int), (0 : Int), (0 : Int), ([] : List Byte), ([] : List Byte), (fun _ => 0#32), (fun _ => 0#8))).2.2.2.1).length ≤ 140737488355328) ∧
                         ∃ x_11713 : Bool, lethelaw02_Kept x_11629 ((script1.getD i_8129 ((0 : Int), (0 : Int), (0 : Int), ([] : List Byte), ([] : List Byte), (fun _ => 0#32), (fun _ => 0#8))).2.2.2.1) x_11713 ∧
                         Iter (lethelaw02_ShaExact_l2 x_11629) (x_11629, 0) () ∧
                         ok11584 = false ∧ t11112 = x_11713 ∧ m11114 = m8131 ∧ m11115 = m8132 ∧ m11116 = m8133 ∧ m11118 = x_11699 ∧ m11119 = x_11700 ∧ m11120 = x_11701 ∧ m11122 = m8139 ∧ m11123 = m8140 ∧ m11124 = m8141 ∧ m11125 = m8142 ∧ m11126 = ((([] : List Byte) ++ m8144) ++ ((script1.getD i_8129 ((0 : Int), (0 : Int), (0 : Int), ([] : List Byte), ([] : List Byte), (fun _ => 0#32), (fun _ => 0#8))).2.2.2.1)) ∧ m11127 = m8146
                       ) else (
                         (x_11134 = 2) ∧
                         (0 ≤ ((script1.getD i_8129 ((0 : Int), (0 : Int), (0 : Int), ([] : List Byte), ([] : List Byte), (fun _ => 0#32), (fun _ => 0#8))).2.2.2.1).length ∧ ((script1.getD i_8129 ((0 : Int), (0 : Int), (0 : Int), ([] : List Byte), ([] : List Byte), (fun _ => 0#32), (fun _ => 0#8))).2.2.2.1).length ≤ x_11629.length) ∧
                         ∃ x_11755 : Nat → BitVec 32, ∃ x_11756 : Nat → BitVec 8, ∃ x_11757 : Int, sha_Hash_Write m8139 m8140 m8141 (seg x_11629 0 (((script1.getD i_8129 ((0 : Int), (0 : Int), (0 : Int), ([] : List Byte), ([] : List Byte), (fun _ => 0#32), (fun _ => 0#8))).2.2.2.1).length)) (x_11755, x_11756, x_11757) ∧
                         (0 + m8146.length ≤ 140737488355328) ∧
                         ((([] : List Byte) ++ m8146).length + ((script1.getD i_8129 ((0 : Int), (0 : Int), (0 : Int), ([] : List Byte), ([] : List Byte), (fun _ => 0#32), (fun _ => 0#8))).2.2.2.1).length ≤ 140737488355328) ∧
                         ∃ x_11769 : Bool, lethelaw02_Kept x_11629 ((script1.getD i_8129 ((0 : Int), (0 : Int), (0 : Int), ([] : List Byte), ([] : List Byte), (fun _ => 0#32), (fun _ => 0#8))).2.2.2.1) x_11769 ∧
                         Iter (lethelaw02_ShaExact_l3 x_11629) (x_11629, 0) () ∧
                         ok11584 = false ∧ t11112 = x_11769 ∧ m11114 = m8131 ∧ m11115 = m8132 ∧ m11116 = m8133 ∧ m11118 = m8135 ∧ m11119 = m8136 ∧ m11120 = m8137 ∧ m11122 = x_11755 ∧ m11123 = x_11756 ∧ m11124 = x_11757 ∧ m11125 = m8142 ∧ m11126 = m8144 ∧ m11127 = ((([] : List Byte) ++ m8146) ++ ((script1.getD i_8129 ((0 : Int), (0 : Int), (0 : Int), ([] : List Byte), ([] : List Byte), (fun _ => 0#32), (fun _ => 0#8))).2.2.2.1))
                       )
                     )
                   ) else (
                     if (script1.getD i_8129 ((0 : Int), (0 : Int), (0 : Int), ([] : List Byte), ([] : List Byte), (fun _ => 0#32), (fun _ => 0#8))).1 = 5 then (
                       if x_11134 = 0 then (
                         ∃ x_11812 : Int, sha_Hash_Len m8131 m8132 m8133 x_11812 ∧
                         if x_11812 = ((m8142.length : Nat) : Int) then (
                           ∃ x_11816 : Nat → BitVec 8, sha_Hash_Sum m8131 m8132 m8133 x_11816 ∧
                           ∃ x_11819 : Nat → BitVec 8, letheref02_Sum m8142 x_11819 ∧
                           ok11584 = false ∧ t11112 = (eqB 32 x_11816 x_11819) ∧ m11114 = m8131 ∧ m11115 = m8132 ∧ m11116 = m8133 ∧ m11118 = m8135 ∧ m11119 = m8136 ∧ m11120 = m8137 ∧ m11122 = m8139 ∧ m11123 = m8140 ∧ m11124 = m8141 ∧ m11125 = m8142 ∧ m11126 = m8144 ∧ m11127 = m8146
                         ) else (
                           ok11584 = false ∧ t11112 = false ∧ m11114 = m8131 ∧ m11115 = m8132 ∧ m11116 = m8133 ∧ m11118 = m8135 ∧ m11119 = m8136 ∧ m11120 = m8137 ∧ m11122 = m8139 ∧ m11123 = m8140 ∧ m11124 = m8141 ∧ m11125 = m8142 ∧ m11126 = m8144 ∧ m11127 = m8146
                         )
                       ) else (
                         if x_11134 = 1 then (
                           ∃ x_11827 : Int, sha_Hash_Len m8135 m8136 m8137 x_11827 ∧
                           if x_11827 = ((m8144.length : Nat) : Int) then (
                             ∃ x_11831 : Nat → BitVec 8, sha_Hash_Sum m8135 m8136 m8137 x_11831 ∧
                             ∃ x_11834 : Nat → BitVec 8, letheref02_Sum m8144 x_11834 ∧
                             ok11584 = false ∧ t11112 = (eqB 32 x_11831 x_11834) ∧ m11114 = m8131 ∧ m11115 = m8132 ∧ m11116 = m8133 ∧ m11118 = m8135 ∧ m11119 = m8136 ∧ m11120 = m8137 ∧ m11122 = m8139 ∧ m11123 = m8140 ∧ m11124 = m8141 ∧ m11125 = m8142 ∧ m11126 = m8144 ∧ m11127 = m8146
                           ) else (
                             ok11584 = false ∧ t11112 = false ∧ m11114 = m8131 ∧ m11115 = m8132 ∧ m11116 = m8133 ∧ m11118 = m8135 ∧ m11119 = m8136 ∧ m11120 = m8137 ∧ m11122 = m8139 ∧ m11123 = m8140 ∧ m11124 = m8141 ∧ m11125 = m8142 ∧ m11126 = m8144 ∧ m11127 = m8146
                           )
                         ) else (
                           (x_11134 = 2) ∧
                           ∃ x_11842 : Int, sha_Hash_Len m8139 m8140 m8141 x_11842 ∧
                           if x_11842 = ((m8146.length : Nat) : Int) then (
                             ∃ x_11846 : Nat → BitVec 8, sha_Hash_Sum m8139 m8140 m8141 x_11846 ∧
                             ∃ x_11849 : Nat → BitVec 8, letheref02_Sum m8146 x_11849 ∧
                             ok11584 = false ∧ t11112 = (eqB 32 x_11846 x_11849) ∧ m11114 = m8131 ∧ m11115 = m8132 ∧ m11116 = m8133 ∧ m11118 = m8135 ∧ m11119 = m8136 ∧ m11120 = m8137 ∧ m11122 = m8139 ∧ m11123 = m8140 ∧ m11124 = m8141 ∧ m11125 = m8142 ∧ m11126 = m8144 ∧ m11127 = m8146
                           ) else (
                             ok11584 = false ∧ t11112 = false ∧ m11114 = m8131 ∧ m11115 = m8132 ∧ m11116 = m8133 ∧ m11118 = m8135 ∧ m11119 = m8136 ∧ m11120 = m8137 ∧ m11122 = m8139 ∧ m11123 = m8140 ∧ m11124 = m8141 ∧ m11125 = m8142 ∧ m11126 = m8144 ∧ m11127 = m8146
                           )
                         )
                       )
                     ) else (
                       if (script1.getD i_8129 ((0 : Int), (0 : Int), (0 : Int), ([] : List Byte), ([] : List Byte), (fun _ => 0#32), (fun _ => 0#8))).1 = 6 then (
                         if x_11134 = 0 then (
                           if x_11137 = 0 then (
                             ∃ x_11861 : Nat → BitVec 32, ∃ x_11862 : Nat → BitVec 8, ∃ x_11863 : Int, sha_Hash_Copy m8131 m8132 m8133 (x_11861, x_11862, x_11863) ∧
                             (0 + m8142.length ≤ 140737488355328) ∧
                             ok11584 = true ∧ w_11561 = 0 ∧ to11562 = 0 ∧ m11564 = x_11861 ∧ m11565 = x_11862 ∧ m11566 = x_11863 ∧ m11568 = m8135 ∧ m11569 = m8136 ∧ m11570 = m8137 ∧ m11572 = m8139 ∧ m11573 = m8140 ∧ m11574 = m8141 ∧ m11575 = (([] : List Byte) ++ m8142) ∧ m11578 = m8144 ∧ m11581 = m8146
                           ) else (
                             if x_11137 = 1 then (
                               ∃ x_11877 : Nat → BitVec 32, ∃ x_11878 : Nat → BitVec 8, ∃ x_11879 : Int, sha_Hash_Copy m8131 m8132 m8133 (x_11877, x_11878, x_11879) ∧
                               (0 + m8142.length ≤ 140737488355328) ∧
                               ok11584 = true ∧ w_11561 = 0 ∧ to11562 = 1 ∧ m11564 = m8131 ∧ m11565 = m8132 ∧ m11566 = m8133 ∧ m11568 = x_11877 ∧ m11569 = x_11878 ∧ m11570 = x_11879 ∧ m11572 = m8139 ∧ m11573 = m8140 ∧ m11574 = m8141 ∧ m11575 = m8142 ∧ m11578 = (([] : List Byte) ++ m8142) ∧ m11581 = m8146
                             ) else (
                               (x_11137 = 2) ∧
                               ∃ x_11893 : Nat → BitVec 32, ∃ x_11894 : Nat → BitVec 8, ∃ x_11895 : Int, sha_Hash_Copy m8131 m8132 m8133 (x_11893, x_11894, x_11895) ∧
                               (0 + m8142.length ≤ 140737488355328) ∧
                               ok11584 = true ∧ w_11561 = 0 ∧ to11562 = 2 ∧ m11564 = m8131 ∧ m11565 = m8132 ∧ m11566 = m8133 ∧ m11568 = m8135 ∧ m11569 = m8136 ∧ m11570 = m8137 ∧ m11572 = x_11893 ∧ m11573 = x_11894 ∧ m11574 = x_11895 ∧ m11575 = m8142 ∧ m11578 = m8144 ∧ m11581 = (([] : List Byte) ++ m8142)
                             )
                           )
                         ) else (
                           if x_11134 = 1 then (
                             if x_11137 = 0 then (
                               ∃ x_11910 : Nat → BitVec 32, ∃ x_11911 : Nat → BitVec 8, ∃ x_11912 : Int, sha_Hash_Copy m8135 m8136 m8137 (x_11910, x_11911, x_11912) ∧
                               (0 + m8144.length ≤ 140737488355328) ∧
                               ok11584 = true ∧ w_11561 = 1 ∧ to11562 = 0 ∧ m11564 = x_11910 ∧ m11565 = x_11911 ∧ m11566 = x_11912 ∧ m11568 = m8135 ∧ m11569 = m8136 ∧ m11570 = m8137 ∧ m11572 = m8139 ∧ m11573 = m8140 ∧ m11574 = m8141 ∧ m11575 = (([] : List Byte) ++ m8144) ∧ m11578 = m8144 ∧ m11581 = m8146
                             ) else (
                               if x_11137 = 1 then (
                                 ∃ x_11926 : Nat → BitVec 32, ∃ x_11927 : Nat → BitVec 8, ∃ x_11928 : Int, sha_Hash_Copy m8135 m8136 m8137 (x_11926, x_11927, x_11928) ∧
                                 (0 + m8144.length ≤ 140737488355328) ∧
                                 ok11584 = true ∧ w_11561 = 1 ∧ to11562 = 1 ∧ m11564 = m8131 ∧ m11565 = m8132 ∧ m11566 = m8133 ∧ m11568 = x_11926 ∧ m11569 = x_11927 ∧ m11570 = x_11928 ∧ m11572 = m8139 ∧ m11573 = m8140 ∧ m11574 = m8141 ∧ m11575 = m8142 ∧ m11578 = (([] : List Byte) ++ m8144) ∧ m11581 = m8146
                               ) else (
                                 (x_11137 = 2) ∧
                                 ∃ x_11942 : Nat → BitVec 32, ∃ x_11943 : Nat → BitVec 8, ∃ x_11944 : Int, sha_Hash_Copy m8135 m8136 m8137 (x_11942, x_11943, x_11944) ∧
                                 (0 + m8144.length ≤ 140737488355328) ∧
                                 ok11584 = true ∧ w_11561 = 1 ∧ to11562 = 2 ∧ m11564 = m8131 ∧ m11565 = m8132 ∧ m11566 = m8133 ∧ m11568 = m8135 ∧ m11569 = m8136 ∧ m11570 = m8137 ∧ m11572 = x_11942 ∧ m11573 = x_11943 ∧ m11574 = x_11944 ∧ m11575 = m8142 ∧ m11578 = m8144 ∧ m11581 = (([] : List Byte) ++ m8144)
                               )
                             )
                           ) else (
                             (x_11134 = 2) ∧
                             if x_11137 = 0 then (
                               ∃ x_11959 : Nat → BitVec 32, ∃ x_11960 : Nat → BitVec 8, ∃ x_11961 : Int, sha_Hash_Copy m8139 m8140 m8141 (x_11959, x_11960, x_11961) ∧
                               (0 + m8146.length ≤ 140737488355328) ∧
                               ok11584 = true ∧ w_11561 = 2 ∧ to11562 = 0 ∧ m11564 = x_11959 ∧ m11565 = x_11960 ∧ m11566 = x_11961 ∧ m11568 = m8135 ∧ m11569 = m8136 ∧ m11570 = m8137 ∧ m11572 = m8139 ∧ m11573 = m8140 ∧ m11574 = m8141 ∧ m11575 = (([] : List Byte) ++ m8146) ∧ m11578 = m8144 ∧ m11581 = m8146
                             ) else (
                               if x_11137 = 1 then (
                                 ∃ x_11975 : Nat → BitVec 32, ∃ x_11976 : Nat → BitVec 8, ∃ x_11977 : Int, sha_Hash_Copy m8139 m8140 m8141 (x_11975, x_11976, x_11977) ∧
                                 (0 + m8146.length ≤ 140737488355328) ∧
                                 ok11584 = true ∧ w_11561 = 2 ∧ to11562 = 1 ∧ m11564 = m8131 ∧ m11565 = m8132 ∧ m11566 = m8133 ∧ m11568 = x_11975 ∧ m11569 = x_11976 ∧ m11570 = x_11977 ∧ m11572 = m8139 ∧ m11573 = m8140 ∧ m11574 = m8141 ∧ m11575 = m8142 ∧ m11578 = (([] : List Byte) ++ m8146) ∧ m11581 = m8146
                               ) else (
                                 (x_11137 = 2) ∧
                                 ∃ x_11991 : Nat → BitVec 32, ∃ x_11992 : Nat → BitVec 8, ∃ x_11993 : Int, sha_Hash_Copy m8139 m8140 m8141 (x_11991, x_11992, x_11993) ∧
                                 (0 + m8146.length ≤ 140737488355328) ∧
                                 ok11584 = true ∧ w_11561 = 2 ∧ to11562 = 2 ∧ m11564 = m8131 ∧ m11565 = m8132 ∧ m11566 = m8133 ∧ m11568 = m8135 ∧ m11569 = m8136 ∧ m11570 = m8137 ∧ m11572 = x_11991 ∧ m11573 = x_11992 ∧ m11574 = x_11993 ∧ m11575 = m8142 ∧ m11578 = m8144 ∧ m11581 = (([] : List Byte) ++ m8146)
                               )
                             )
                           )
                         )
                       ) else (
                         if (script1.getD i_8129 ((0 : Int), (0 : Int), (0 : Int), ([] : List Byte), ([] : List Byte), (fun _ => 0#32), (fun _ => 0#8))).1 = 7 then (
                           if x_11134 = 0 then (
                             ∃ x_12009 : Nat → BitVec 32, ∃ x_12010 : Nat → BitVec 8, ∃ x_12011 : Int, sha_Hash_Wipe m8131 m8132 m8133 (x_12009, x_12010, x_12011) ∧
                             ok11584 = true ∧ w_11561 = 0 ∧ to11562 = x_11137 ∧ m11564 = x_12009 ∧ m11565 = x_12010 ∧ m11566 = x_12011 ∧ m11568 = m8135 ∧ m11569 = m8136 ∧ m11570 = m8137 ∧ m11572 = m8139 ∧ m11573 = m8140 ∧ m11574 = m8141 ∧ m11575 = ([] : List Byte) ∧ m11578 = m8144 ∧ m11581 = m8146
                           ) else (
                             if x_11134 = 1 then (
                               ∃ x_12019 : Nat → BitVec 32, ∃ x_12020 : Nat → BitVec 8, ∃ x_12021 : Int, sha_Hash_Wipe m8135 m8136 m8137 (x_12019, x_12020, x_12021) ∧
                               ok11584 = true ∧ w_11561 = 1 ∧ to11562 = x_11137 ∧ m11564 = m8131 ∧ m11565 = m8132 ∧ m11566 = m8133 ∧ m11568 = x_12019 ∧ m11569 = x_12020 ∧ m11570 = x_12021 ∧ m11572 = m8139 ∧ m11573 = m8140 ∧ m11574 = m8141 ∧ m11575 = m8142 ∧ m11578 = ([] : List Byte) ∧ m11581 = m8146
                             ) else (
                               (x_11134 = 2) ∧
                               ∃ x_12029 : Nat → BitVec 32, ∃ x_12030 : Nat → BitVec 8, ∃ x_12031 : Int, sha_Hash_Wipe m8139 m8140 m8141 (x_12029, x_12030, x_12031) ∧
                               ok11584 = true ∧ w_11561 = 2 ∧ to11562 = x_11137 ∧ m11564 = m8131 ∧ m11565 = m8132 ∧ m11566 = m8133 ∧ m11568 = m8135 ∧ m11569 = m8136 ∧ m11570 = m8137 ∧ m11572 = x_12029 ∧ m11573 = x_12030 ∧ m11574 = x_12031 ∧ m11575 = m8142 ∧ m11578 = m8144 ∧ m11581 = ([] : List Byte)
                             )
                           )
                         ) else (
                           ok11584 = true ∧ w_11561 = x_11134 ∧ to11562 = x_11137 ∧ m11564 = m8131 ∧ m11565 = m8132 ∧ m11566 = m8133 ∧ m11568 = m8135 ∧ m11569 = m8136 ∧ m11570 = m8137 ∧ m11572 = m8139 ∧ m11573 = m8140 ∧ m11574 = m8141 ∧ m11575 = m8142 ∧ m11578 = m8144 ∧ m11581 = m8146
                         )
                       )
                     )
                   )
                 )
               ) ∧
               (ok11584 = true →
               if w_11561 = 0 then (
                 if to11562 = 0 then (
                   t11112 = true ∧ m11114 = m11564 ∧ m11115 = m11565 ∧ m11116 = m11566 ∧ m11118 = m11568 ∧ m11119 = m11569 ∧ m11120 = m11570 ∧ m11122 = m11572 ∧ m11123 = m11573 ∧ m11124 = m11574 ∧ m11125 = m11575 ∧ m11126 = m11578 ∧ m11127 = m11581
                 ) else (
                   if to11562 = 1 then (
                     t11112 = true ∧ m11114 = m11564 ∧ m11115 = m11565 ∧ m11116 = m11566 ∧ m11118 = m11568 ∧ m11119 = m11569 ∧ m11120 = m11570 ∧ m11122 = m11572 ∧ m11123 = m11573 ∧ m11124 = m11574 ∧ m11125 = m11575 ∧ m11126 = m11578 ∧ m11127 = m11581
                   ) else (
                     (to11562 = 2) ∧
                     t11112 = true ∧ m11114 = m11564 ∧ m11115 = m11565 ∧ m11116 = m11566 ∧ m11118 = m11568 ∧ m11119 = m11569 ∧ m11120 = m11570 ∧ m11122 = m11572 ∧ m11123 = m11573 ∧ m11124 = m11574 ∧ m11125 = m11575 ∧ m11126 = m11578 ∧ m11127 = m11581
                   )
                 )
               ) else (
                 if w_11561 = 1 then (
                   if to11562 = 0 then (
                     t11112 = true ∧ m11114 = m11564 ∧ m11115 = m11565 ∧ m11116 = m11566 ∧ m11118 = m11568 ∧ m11119 = m11569 ∧ m11120 = m11570 ∧ m11122 = m11572 ∧ m11123 = m11573 ∧ m11124 = m11574 ∧ m11125 = m11575 ∧ m11126 = m11578 ∧ m11127 = m11581
                   ) else (
                     if to11562 = 1 then (
                       t11112 = true ∧ m11114 = m11564 ∧ m11115 = m11565 ∧ m11116 = m11566 ∧ m11118 = m11568 ∧ m11119 = m11569 ∧ m11120 = m11570 ∧ m11122 = m11572 ∧ m11123 = m11573 ∧ m11124 = m11574 ∧ m11125 = m11575 ∧ m11126 = m11578 ∧ m11127 = m11581
                     ) else (
                       (to11562 = 2) ∧
                       t11112 = true ∧ m11114 = m11564 ∧ m11115 = m11565 ∧ m11116 = m11566 ∧ m11118 = m11568 ∧ m11119 = m11569 ∧ m11120 = m11570 ∧ m11122 = m11572 ∧ m11123 = m11573 ∧ m11124 = m11574 ∧ m11125 = m11575 ∧ m11126 = m11578 ∧ m11127 = m11581
                     )
                   )
                 ) else (
                   (w_11561 = 2) ∧
                   if to11562 = 0 then (
                     t11112 = true ∧ m11114 = m11564 ∧ m11115 = m11565 ∧ m11116 = m11566 ∧ m11118 = m11568 ∧ m11119 = m11569 ∧ m11120 = m11570 ∧ m11122 = m11572 ∧ m11123 = m11573 ∧ m11124 = m11574 ∧ m11125 = m11575 ∧ m11126 = m11578 ∧ m11127 = m11581
                   ) else (
                     if to11562 = 1 then (
                       t11112 = true ∧ m11114 = m11564 ∧ m11115 = m11565 ∧ m11116 = m11566 ∧ m11118 = m11568 ∧ m11119 = m11569 ∧ m11120 = m11570 ∧ m11122 = m11572 ∧ m11123 = m11573 ∧ m11124 = m11574 ∧ m11125 = m11575 ∧ m11126 = m11578 ∧ m11127 = m11581
                     ) else (
                       (to11562 = 2) ∧
                       t11112 = true ∧ m11114 = m11564 ∧ m11115 = m11565 ∧ m11116 = m11566 ∧ m11118 = m11568 ∧ m11119 = m11569 ∧ m11120 = m11570 ∧ m11122 = m11572 ∧ m11123 = m11573 ∧ m11124 = m11574 ∧ m11125 = m11575 ∧ m11126 = m11578 ∧ m11127 = m11581
                     )
                   )
                 )
               )
               )
             ) ∧
             script10106 = t11112 ∧ m10108 = m11114 ∧ m10109 = m11115 ∧ m10110 = m11116 ∧ m10112 = m11118 ∧ m10113 = m11119 ∧ m10114 = m11120 ∧ m10116 = m11122 ∧ m10117 = m11123 ∧ m10118 = m11124 ∧ m10119 = m11125 ∧ m10120 = m11126 ∧ m10121 = m11127
           )
         )
       ) ∧
       if script10106 = true then (
         o8163 = .inl ((i_8129 + 1), m10108, m10109, m10110, m10112, m10113, m10114, m10116, m10117, m10118, m10119, m10120, m10121)
       ) else (
         o8163 = .inr none ∧ r = false
       )
     ) else (
       o8163 = .inr (some (m8131, m8132, m8133, m8135, m8136, m8137, m8139, m8140, m8141, m8142, m8144, m8146))
     )
   ) else (
     o8163 = .inr (some (m8131, m8132, m8133, m8135, m8136, m8137, m8139, m8140, m8141, m8142, m8144, m8146))
   )
def lethelaw02_ShaExact (script1 : List (Int × Int × Int × (List Byte) × (List Byte) × (Nat → BitVec 32) × (Nat → BitVec 8))) (r : Bool) : Prop :=
 ∃ x_6 : Bool, lethelaw02_moves x_6 ∧
 if x_6 = true then (
   ∃ x_19 : Nat → BitVec 32, ∃ x_20 : Nat → BitVec 8, ∃ x_21 : Nat, sha_New (x_19, x_20, x_21) ∧
   ∃ x_32 : Nat → BitVec 32, ∃ x_33 : Nat → BitVec 8, ∃ x_34 : Nat, sha_New (x_32, x_33, x_34) ∧
   ∃ x_45 : Nat → BitVec 32, ∃ x_46 : Nat → BitVec 8, ∃ x_47 : Nat, sha_New (x_45, x_46, x_47) ∧
   ∃ x8163 : Option ((Nat → BitVec 32) × (Nat → BitVec 8) × Int × (Nat → BitVec 32) × (Nat → BitVec 8) × Int × (Nat → BitVec 32) × (Nat → BitVec 8) × Int × (List Byte) × (List Byte) × (List Byte)), Iter (lethelaw02_ShaExact_l0 script1 r) (0, x_19, x_20, ((x_21 : Nat) : Int), x_32, x_33, ((x_34 : Nat) : Int), x_45, x_46, ((x_47 : Nat) : Int), ([] : List Byte), ([] : List Byte), ([] : List Byte)) x8163 ∧ (∀ (m8149 : Nat → BitVec 32) (m8150 : Nat → BitVec 8) (m8151 : Int) (m8153 : Nat → BitVec 32) (m8154 : Nat → BitVec 8) (m8155 : Int) (m8157 : Nat → BitVec 32) (m8158 : Nat → BitVec 8) (m8159 : Int) (m8160 : List Byte) (m8161 : List Byte) (m8162 : List Byte), x8163 = some (m8149, m8150, m8151, m8153, m8154, m8155, m8157, m8158, m8159, m8160, m8161, m8162) →
   ∃ script12158 : Bool, (
     ∃ x_12165 : Int, lethelaw02_rest 0 3 x_12165 ∧
     ∃ x_12168 : Int, lethelaw02_rest 0 3 x_12168 ∧
     if x_12165 = 0 then (
       ∃ x_12224 : Int, sha_Hash_Len m8149 m8150 m8151 x_12224 ∧
       if x_12224 = ((m8160.length : Nat) : Int) then (
         ∃ x_12228 : Nat → BitVec 8, sha_Hash_Sum m8149 m8150 m8151 x_12228 ∧
         ∃ x_12231 : Nat → BitVec 8, letheref02_Sum m8160 x_12231 ∧
         script12158 = (eqB 32 x_12228 x_12231)
       ) else (
         script12158 = false
       )
     ) else (
       if x_12165 = 1 then (
         ∃ x_12239 : Int, sha_Hash_Len m8153 m8154 m8155 x_12239 ∧
         if x_12239 = ((m8161.length : Nat) : Int) then (
           ∃ x_12243 : Nat → BitVec 8, sha_Hash_Sum m8153 m8154 m8155 x_12243 ∧
           ∃ x_12246 : Nat → BitVec 8, letheref02_Sum m8161 x_12246 ∧
           script12158 = (eqB 32 x_12243 x_12246)
         ) else (
           script12158 = false
         )
       ) else (
         (x_12165 = 2) ∧
         ∃ x_12254 : Int, sha_Hash_Len m8157 m8158 m8159 x_12254 ∧
         if x_12254 = ((m8162.length : Nat) : Int) then (
           ∃ x_12258 : Nat → BitVec 8, sha_Hash_Sum m8157 m8158 m8159 x_12258 ∧
           ∃ x_12261 : Nat → BitVec 8, letheref02_Sum m8162 x_12261 ∧
           script12158 = (eqB 32 x_12258 x_12261)
         ) else (
           script12158 = false
         )
       )
     )
   ) ∧
   if script12158 = true then (
     ∃ script12366 : Bool, (
       ∃ x_12373 : Int, lethelaw02_rest 1 3 x_12373 ∧
       ∃ x_12376 : Int, lethelaw02_rest 0 3 x_12376 ∧
       if x_12373 = 0 then (
         ∃ x_12432 : Int, sha_Hash_Len m8149 m8150 m8151 x_12432 ∧
         if x_12432 = ((m8160.length : Nat) : Int) then (
           ∃ x_12436 : Nat → BitVec 8, sha_Hash_Sum m8149 m8150 m8151 x_12436 ∧
           ∃ x_12439 : Nat → BitVec 8, letheref02_Sum m8160 x_12439 ∧
           script12366 = (eqB 32 x_12436 x_12439)
         ) else (
           script12366 = false
         )
       ) else (
         if x_12373 = 1 then (
           ∃ x_12447 : Int, sha_Hash_Len m8153 m8154 m8155 x_12447 ∧
           if x_12447 = ((m8161.length : Nat) : Int) then (
             ∃ x_12451 : Nat → BitVec 8, sha_Hash_Sum m8153 m8154 m8155 x_12451 ∧
             ∃ x_12454 : Nat → BitVec 8, letheref02_Sum m8161 x_12454 ∧
             script12366 = (eqB 32 x_12451 x_12454)
           ) else (
             script12366 = false
           )
         ) else (
           (x_12373 = 2) ∧
           ∃ x_12462 : Int, sha_Hash_Len m8157 m8158 m8159 x_12462 ∧
           if x_12462 = ((m8162.length : Nat) : Int) then (
             ∃ x_12466 : Nat → BitVec 8, sha_Hash_Sum m8157 m8158 m8159 x_12466 ∧
             ∃ x_12469 : Nat → BitVec 8, letheref02_Sum m8162 x_12469 ∧
             script12366 = (eqB 32 x_12466 x_12469)
           ) else (
             script12366 = false
           )
         )
       )
     ) ∧
     if script12366 = true then (
       ∃ script12574 : Bool, (
         ∃ x_12581 : Int, lethelaw02_rest 2 3 x_12581 ∧
         ∃ x_12584 : Int, lethelaw02_rest 0 3 x_12584 ∧
         if x_12581 = 0 then (
           ∃ x_12640 : Int, sha_Hash_Len m8149 m8150 m8151 x_12640 ∧
           if x_12640 = ((m8160.length : Nat) : Int) then (
             ∃ x_12644 : Nat → BitVec 8, sha_Hash_Sum m8149 m8150 m8151 x_12644 ∧
             ∃ x_12647 : Nat → BitVec 8, letheref02_Sum m8160 x_12647 ∧
             script12574 = (eqB 32 x_12644 x_12647)
           ) else (
             script12574 = false
           )
         ) else (
           if x_12581 = 1 then (
             ∃ x_12655 : Int, sha_Hash_Len m8153 m8154 m8155 x_12655 ∧
             if x_12655 = ((m8161.length : Nat) : Int) then (
               ∃ x_12659 : Nat → BitVec 8, sha_Hash_Sum m8153 m8154 m8155 x_12659 ∧
               ∃ x_12662 : Nat → BitVec 8, letheref02_Sum m8161 x_12662 ∧
               script12574 = (eqB 32 x_12659 x_12662)
             ) else (
               script12574 = false
             )
           ) else (
             (x_12581 = 2) ∧
             ∃ x_12670 : Int, sha_Hash_Len m8157 m8158 m8159 x_12670 ∧
             if x_12670 = ((m8162.length : Nat) : Int) then (
               ∃ x_12674 : Nat → BitVec 8, sha_Hash_Sum m8157 m8158 m8159 x_12674 ∧
               ∃ x_12677 : Nat → BitVec 8, letheref02_Sum m8162 x_12677 ∧
               script12574 = (eqB 32 x_12674 x_12677)
             ) else (
               script12574 = false
             )
           )
         )
       ) ∧
       r = script12574
     ) else (
       r = false
     )
   ) else (
     r = false
   )
   )
 ) else (
   r = false
 )
end Go.Proofs.YtjdgbahjpdopbaaDoor
