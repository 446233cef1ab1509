/-
 RELATIONS of the package's functions, printed by this session's own program (auto.py).
-/
import Derived.Test.YthjkmhdgenmnoaaDoorEc
import Derived.Test.YthjkmhdgenmnoaaDoorShaM
import Derived.Test.YthjkmhdgenmnoaaDoorRLaw05
namespace Go.Proofs.YthjkmhdgenmnoaaDoor
set_option linter.unusedSimpArgs false
set_option linter.unusedVariables false
set_option linter.unusedSectionVars false
open Go Go.LW
def lethelaw05_SealExact_l0 (script1 : List (Int × (Nat → BitVec 8) × (List Byte) × (List Byte) × Int)) (r : Bool) (s : (Nat × (List (List Byte)) × (List (List Byte)))) (o108 : (Nat × (List (List Byte)) × (List (List Byte))) ⊕ (Option ((List (List Byte)) × (List (List Byte))))) : Prop :=
 match s with
 | (i_101, m102, m104) =>
   if i_101 < script1.length then (
     if i_101 < 20 then (
       (i_101 < script1.length) ∧
       ∃ x_128 : Bool, ∃ x_129 : List (List Byte), ∃ x_130 : List (List Byte), lethelaw05_Book_plays m102 m104 ((script1.getD i_101 ((0 : Int), (fun _ => 0#8), ([] : List Byte), ([] : List Byte), (0 : Int))).1) ((script1.getD i_101 ((0 : Int), (fun _ => 0#8), ([] : List Byte), ([] : List Byte), (0 : Int))).2.1) ((script1.getD i_101 ((0 : Int), (fun _ => 0#8), ([] : List Byte), ([] : List Byte), (0 : Int))).2.2.1) ((script1.getD i_101 ((0 : Int), (fun _ => 0#8), ([] : List Byte), ([] : List Byte), (0 : Int))).2.2.2.1) ((script1.getD i_101 ((0 : Int), (fun _ => 0#8), ([] : List Byte), ([] : List Byte), (0 : Int))).2.2.2.2) (x_128, x_129, x_130) ∧
       if x_128 = true then (
         ∃ x_153 : Bool, lethelaw05_Book_Holds x_129 x_130 x_153 ∧
         if x_153 = true then (
           o108 = .inl ((i_101 + 1), x_129, x_130)
         ) else (
           o108 = .inr none ∧ r = false
         )
       ) else (
         o108 = .inr none ∧ r = false
       )
     ) else (
       o108 = .inr (some (m102, m104))
     )
   ) else (
     o108 = .inr (some (m102, m104))
   )
def lethelaw05_SealExact (script1 : List (Int × (Nat → BitVec 8) × (List Byte) × (List Byte) × Int)) (r : Bool) : Prop :=
 ∃ x108 : Option ((List (List Byte)) × (List (List Byte))), Iter (lethelaw05_SealExact_l0 script1 r) (0, ([] : List (List Byte)), ([] : List (List Byte))) x108 ∧ (∀ (m106 : List (List Byte)) (m107 : List (List Byte)), x108 = some (m106, m107) →
 ∃ x_182 : Bool, ∃ x_183 : List (List Byte), ∃ x_184 : List (List Byte), lethelaw05_Book_plays m106 m107 4 (fun _ => 0#8) ([4#8] : List Byte) ([1#8, 2#8, 3#8] : List Byte) 0 (x_182, x_183, x_184) ∧
 if x_182 = true then (
   ∃ x_211 : Bool, ∃ x_212 : List (List Byte), ∃ x_213 : List (List Byte), lethelaw05_Book_plays x_183 x_184 1 (fun _ => 0#8) ([] : List Byte) ([1#8] : List Byte) 0 (x_211, x_212, x_213) ∧
   if x_211 = true then (
     ∃ x_234 : Bool, lethelaw05_Book_Holds x_212 x_213 x_234 ∧
     r = x_234
   ) else (
     r = false
   )
 ) else (
   r = false
 )
 )
end Go.Proofs.YthjkmhdgenmnoaaDoor
