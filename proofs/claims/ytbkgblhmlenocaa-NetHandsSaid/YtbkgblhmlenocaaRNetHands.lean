/-
 RELATIONS of the package's functions, printed by this session's own program (auto.py).
-/
import Derived.Test.YtbkgblhmlenocaaEd
import Derived.Test.YtbkgblhmlenocaaRLaw23
namespace Go.Proofs.Ytbkgblhmlenocaa
set_option linter.unusedSimpArgs false
set_option linter.unusedVariables false
set_option linter.unusedSectionVars false
open Go Go.LW
def lethelaw23_NetHands_l0 (b1 : List Byte) (mark2 : Int) (s : ((List Byte) × (List Byte) × Nat)) (o74 : ((List Byte) × (List Byte) × Nat) ⊕ (List Byte)) : Prop :=
 match s with
 | (b70, long71, i_72) =>
   if i_72 < (([1#8, 2#8] : List Byte) ++ (seg b1 0 (min b1.length 40))).length then (
     (i_72 < ((([] : List Byte) ++ (([1#8, 2#8] : List Byte) ++ (seg b1 0 (min b1.length 40)))) ++ ([7#8, 7#8, 7#8] : List Byte)).length) ∧
     ((i_72 + 1) < 9223372036854775808) ∧
     o74 = .inl (b70, (long71.set i_72 (BitVec.ofInt 8 mark2)), (i_72 + 1))
   ) else (
     o74 = .inr b70
   )
def lethelaw23_NetHands_l1 (b1 : List Byte) (mark2 : Int) (s : ((List Byte) × Nat × (List Byte))) (o126 : ((List Byte) × Nat × (List Byte)) ⊕ ((List Byte) × (List Byte))) : Prop :=
 match s with
 | (b121, i_122, m123) =>
   if i_122 < (seg ((([] : List Byte) ++ (([1#8, 2#8] : List Byte) ++ (seg b1 0 (min b1.length 40)))) ++ ([7#8, 7#8, 7#8] : List Byte)) 0 ((([1#8, 2#8] : List Byte) ++ (seg b1 0 (min b1.length 40))).length)).length then (
     (i_122 < (seg ((([] : List Byte) ++ (([1#8, 2#8] : List Byte) ++ (seg b1 0 (min b1.length 40)))) ++ ([7#8, 7#8, 7#8] : List Byte)) 0 ((([1#8, 2#8] : List Byte) ++ (seg b1 0 (min b1.length 40))).length)).length) ∧
     ((i_122 + 1) < 9223372036854775808) ∧
     o126 = .inl (b121, (i_122 + 1), (m123.set i_122 (BitVec.ofInt 8 (w64 (mark2 + 0)))))
   ) else (
     o126 = .inr (b121, m123)
   )
def lethelaw23_NetHands_l2 (b1 : List Byte) (mark2 : Int) (s : ((List Byte) × Nat × (List Byte))) (o165 : ((List Byte) × Nat × (List Byte)) ⊕ ((List Byte) × (List Byte))) : Prop :=
 match s with
 | (b160, i_161, m162) =>
   if i_161 < (seg ((([] : List Byte) ++ (([1#8, 2#8] : List Byte) ++ (seg b1 0 (min b1.length 40)))) ++ ([7#8, 7#8, 7#8] : List Byte)) 0 ((([1#8, 2#8] : List Byte) ++ (seg b1 0 (min b1.length 40))).length)).length then (
     (i_161 < (seg ((([] : List Byte) ++ (([1#8, 2#8] : List Byte) ++ (seg b1 0 (min b1.length 40)))) ++ ([7#8, 7#8, 7#8] : List Byte)) 0 ((([1#8, 2#8] : List Byte) ++ (seg b1 0 (min b1.length 40))).length)).length) ∧
     ((i_161 + 1) < 9223372036854775808) ∧
     o165 = .inl (b160, (i_161 + 1), (m162.set i_161 (BitVec.ofInt 8 (w64 (mark2 + 1)))))
   ) else (
     o165 = .inr (b160, m162)
   )
def lethelaw23_NetHands_l3 (b1 : List Byte) (mark2 : Int) (s : ((List Byte) × Nat × (List Byte))) (o204 : ((List Byte) × Nat × (List Byte)) ⊕ ((List Byte) × (List Byte))) : Prop :=
 match s with
 | (b199, i_200, m201) =>
   if i_200 < (seg ((([] : List Byte) ++ (([1#8, 2#8] : List Byte) ++ (seg b1 0 (min b1.length 40)))) ++ ([7#8, 7#8, 7#8] : List Byte)) 0 ((([1#8, 2#8] : List Byte) ++ (seg b1 0 (min b1.length 40))).length)).length then (
     (i_200 < (seg ((([] : List Byte) ++ (([1#8, 2#8] : List Byte) ++ (seg b1 0 (min b1.length 40)))) ++ ([7#8, 7#8, 7#8] : List Byte)) 0 ((([1#8, 2#8] : List Byte) ++ (seg b1 0 (min b1.length 40))).length)).length) ∧
     ((i_200 + 1) < 9223372036854775808) ∧
     o204 = .inl (b199, (i_200 + 1), (m201.set i_200 (BitVec.ofInt 8 (w64 (mark2 + 2)))))
   ) else (
     o204 = .inr (b199, m201)
   )
def lethelaw23_NetHands_l4 (b1 : List Byte) (mark2 : Int) (s : ((List Byte) × Nat × (List Byte))) (o463 : ((List Byte) × Nat × (List Byte)) ⊕ ((List Byte) × (List Byte))) : Prop :=
 match s with
 | (b458, i_459, m460) =>
   if i_459 < (seg ((([] : List Byte) ++ (([1#8, 2#8] : List Byte) ++ (seg b1 0 (min b1.length 40)))) ++ ([7#8, 7#8, 7#8] : List Byte)) 0 ((([1#8, 2#8] : List Byte) ++ (seg b1 0 (min b1.length 40))).length)).length then (
     (i_459 < (seg ((([] : List Byte) ++ (([1#8, 2#8] : List Byte) ++ (seg b1 0 (min b1.length 40)))) ++ ([7#8, 7#8, 7#8] : List Byte)) 0 ((([1#8, 2#8] : List Byte) ++ (seg b1 0 (min b1.length 40))).length)).length) ∧
     ((i_459 + 1) < 9223372036854775808) ∧
     o463 = .inl (b458, (i_459 + 1), (m460.set i_459 (BitVec.ofInt 8 (w64 (mark2 + 3)))))
   ) else (
     o463 = .inr (b458, m460)
   )
def lethelaw23_NetHands_l5 (b1 : List Byte) (mark2 : Int) (m125 : List Byte) (r : Bool) (i_541 : Nat) (o542 : Nat ⊕ (Option Unit)) : Prop :=
 if i_541 < (seg ((([] : List Byte) ++ (([1#8, 2#8] : List Byte) ++ (seg b1 0 (min b1.length 40)))) ++ ([7#8, 7#8, 7#8] : List Byte)) 0 ((([1#8, 2#8] : List Byte) ++ (seg b1 0 (min b1.length 40))).length)).length then (
   (i_541 < (seg ((([] : List Byte) ++ (([1#8, 2#8] : List Byte) ++ (seg b1 0 (min b1.length 40)))) ++ ([7#8, 7#8, 7#8] : List Byte)) 0 ((([1#8, 2#8] : List Byte) ++ (seg b1 0 (min b1.length 40))).length)).length) ∧
   if (lit m125 i_541) ≠ (BitVec.ofInt 8 (w64 (mark2 + 0))) then (
     o542 = .inr none ∧ r = false
   ) else (
     ((i_541 + 1) < 9223372036854775808) ∧
     o542 = .inl (i_541 + 1)
   )
 ) else (
   o542 = .inr (some ())
 )
def lethelaw23_NetHands_l6 (b1 : List Byte) (mark2 : Int) (m164 : List Byte) (r : Bool) (i_598 : Nat) (o599 : Nat ⊕ (Option Unit)) : Prop :=
 if i_598 < (seg ((([] : List Byte) ++ (([1#8, 2#8] : List Byte) ++ (seg b1 0 (min b1.length 40)))) ++ ([7#8, 7#8, 7#8] : List Byte)) 0 ((([1#8, 2#8] : List Byte) ++ (seg b1 0 (min b1.length 40))).length)).length then (
   (i_598 < (seg ((([] : List Byte) ++ (([1#8, 2#8] : List Byte) ++ (seg b1 0 (min b1.length 40)))) ++ ([7#8, 7#8, 7#8] : List Byte)) 0 ((([1#8, 2#8] : List Byte) ++ (seg b1 0 (min b1.length 40))).length)).length) ∧
   if (lit m164 i_598) ≠ (BitVec.ofInt 8 (w64 (mark2 + 1))) then (
     o599 = .inr none ∧ r = false
   ) else (
     ((i_598 + 1) < 9223372036854775808) ∧
     o599 = .inl (i_598 + 1)
   )
 ) else (
   o599 = .inr (some ())
 )
def lethelaw23_NetHands_l7 (b1 : List Byte) (mark2 : Int) (m203 : List Byte) (r : Bool) (i_654 : Nat) (o655 : Nat ⊕ (Option Unit)) : Prop :=
 if i_654 < (seg ((([] : List Byte) ++ (([1#8, 2#8] : List Byte) ++ (seg b1 0 (min b1.length 40)))) ++ ([7#8, 7#8, 7#8] : List Byte)) 0 ((([1#8, 2#8] : List Byte) ++ (seg b1 0 (min b1.length 40))).length)).length then (
   (i_654 < (seg ((([] : List Byte) ++ (([1#8, 2#8] : List Byte) ++ (seg b1 0 (min b1.length 40)))) ++ ([7#8, 7#8, 7#8] : List Byte)) 0 ((([1#8, 2#8] : List Byte) ++ (seg b1 0 (min b1.length 40))).length)).length) ∧
   if (lit m203 i_654) ≠ (BitVec.ofInt 8 (w64 (mark2 + 2))) then (
     o655 = .inr none ∧ r = false
   ) else (
     ((i_654 + 1) < 9223372036854775808) ∧
     o655 = .inl (i_654 + 1)
   )
 ) else (
   o655 = .inr (some ())
 )
def lethelaw23_NetHands (b1 : List Byte) (mark2 : Int) (r : Bool) : Prop :=
 (0 ≤ (min b1.length 40) ∧ (min b1.length 40) ≤ b1.length) ∧
 (([1#8, 2#8] : List Byte).length + (seg b1 0 (min b1.length 40)).length ≤ 140737488355328) ∧
 (0 + (([1#8, 2#8] : List Byte) ++ (seg b1 0 (min b1.length 40))).length ≤ 140737488355328) ∧
 ((([] : List Byte) ++ (([1#8, 2#8] : List Byte) ++ (seg b1 0 (min b1.length 40)))).length + ([7#8, 7#8, 7#8] : List Byte).length ≤ 140737488355328) ∧
 (0 ≤ (([1#8, 2#8] : List Byte) ++ (seg b1 0 (min b1.length 40))).length ∧ (([1#8, 2#8] : List Byte) ++ (seg b1 0 (min b1.length 40))).length ≤ ((([] : List Byte) ++ (([1#8, 2#8] : List Byte) ++ (seg b1 0 (min b1.length 40)))) ++ ([7#8, 7#8, 7#8] : List Byte)).length) ∧
 ((seg ((([] : List Byte) ++ (([1#8, 2#8] : List Byte) ++ (seg b1 0 (min b1.length 40)))) ++ ([7#8, 7#8, 7#8] : List Byte)) 0 ((([1#8, 2#8] : List Byte) ++ (seg b1 0 (min b1.length 40))).length)).length ≤ 140737488355328) ∧
 (0 ≤ (([1#8, 2#8] : List Byte) ++ (seg b1 0 (min b1.length 40))).length ∧ (([1#8, 2#8] : List Byte) ++ (seg b1 0 (min b1.length 40))).length ≤ ((([] : List Byte) ++ (([1#8, 2#8] : List Byte) ++ (seg b1 0 (min b1.length 40)))) ++ ([7#8, 7#8, 7#8] : List Byte)).length) ∧
 ((seg ((([] : List Byte) ++ (([1#8, 2#8] : List Byte) ++ (seg b1 0 (min b1.length 40)))) ++ ([7#8, 7#8, 7#8] : List Byte)) 0 ((([1#8, 2#8] : List Byte) ++ (seg b1 0 (min b1.length 40))).length)).length ≤ 140737488355328) ∧
 ((seg ((([] : List Byte) ++ (([1#8, 2#8] : List Byte) ++ (seg b1 0 (min b1.length 40)))) ++ ([7#8, 7#8, 7#8] : List Byte)) 0 ((([1#8, 2#8] : List Byte) ++ (seg b1 0 (min b1.length 40))).length)).length ≤ 140737488355328) ∧
 ((([1#8, 2#8] : List Byte) ++ (seg b1 0 (min b1.length 40))).length + ([7#8, 7#8, 7#8]).length ≤ 9223372036854775807) ∧
 if ((([] : List Byte) ++ (([1#8, 2#8] : List Byte) ++ (seg b1 0 (min b1.length 40)))) ++ ([7#8, 7#8, 7#8] : List Byte)) = ((([1#8, 2#8] : List Byte) ++ (seg b1 0 (min b1.length 40))) ++ [7#8, 7#8, 7#8]) then (
   ∃ b73 : List Byte, Iter (lethelaw23_NetHands_l0 b1 mark2) ((([1#8, 2#8] : List Byte) ++ (seg b1 0 (min b1.length 40))), ((([] : List Byte) ++ (([1#8, 2#8] : List Byte) ++ (seg b1 0 (min b1.length 40)))) ++ ([7#8, 7#8, 7#8] : List Byte)), 0) b73 ∧
   ((seg ((([] : List Byte) ++ (([1#8, 2#8] : List Byte) ++ (seg b1 0 (min b1.length 40)))) ++ ([7#8, 7#8, 7#8] : List Byte)) 0 ((([1#8, 2#8] : List Byte) ++ (seg b1 0 (min b1.length 40))).length)).length ≤ 140737488355328) ∧
   ((seg ((([] : List Byte) ++ (([1#8, 2#8] : List Byte) ++ (seg b1 0 (min b1.length 40)))) ++ ([7#8, 7#8, 7#8] : List Byte)) 0 ((([1#8, 2#8] : List Byte) ++ (seg b1 0 (min b1.length 40))).length)).length ≤ 140737488355328) ∧
   ∃ b124 : List Byte, ∃ m125 : List Byte, Iter (lethelaw23_NetHands_l1 b1 mark2) (b73, 0, (seg ((([] : List Byte) ++ (([1#8, 2#8] : List Byte) ++ (seg b1 0 (min b1.length 40)))) ++ ([7#8, 7#8, 7#8] : List Byte)) 0 ((([1#8, 2#8] : List Byte) ++ (seg b1 0 (min b1.length 40))).length))) (b124, m125) ∧
   ∃ b163 : List Byte, ∃ m164 : List Byte, Iter (lethelaw23_NetHands_l2 b1 mark2) (b124, 0, (seg ((([] : List Byte) ++ (([1#8, 2#8] : List Byte) ++ (seg b1 0 (min b1.length 40)))) ++ ([7#8, 7#8, 7#8] : List Byte)) 0 ((([1#8, 2#8] : List Byte) ++ (seg b1 0 (min b1.length 40))).length))) (b163, m164) ∧
   ∃ b202 : List Byte, ∃ m203 : List Byte, Iter (lethelaw23_NetHands_l3 b1 mark2) (b163, 0, (seg ((([] : List Byte) ++ (([1#8, 2#8] : List Byte) ++ (seg b1 0 (min b1.length 40)))) ++ ([7#8, 7#8, 7#8] : List Byte)) 0 ((([1#8, 2#8] : List Byte) ++ (seg b1 0 (min b1.length 40))).length))) (b202, m203) ∧
   ((seg ((([] : List Byte) ++ (([1#8, 2#8] : List Byte) ++ (seg b1 0 (min b1.length 40)))) ++ ([7#8, 7#8, 7#8] : List Byte)) 0 ((([1#8, 2#8] : List Byte) ++ (seg b1 0 (min b1.length 40))).length)).length + ([(BitVec.ofInt 8 (w64 (mark2 + 9)))] : List Byte).length ≤ 140737488355328) ∧
   ((seg ((([] : List Byte) ++ (([1#8, 2#8] : List Byte) ++ (seg b1 0 (min b1.length 40)))) ++ ([7#8, 7#8, 7#8] : List Byte)) 0 ((([1#8, 2#8] : List Byte) ++ (seg b1 0 (min b1.length 40))).length)).length + ([(BitVec.ofInt 8 (w64 (mark2 + 9)))] : List Byte).length ≤ 140737488355328) ∧
   ((seg ((([] : List Byte) ++ (([1#8, 2#8] : List Byte) ++ (seg b1 0 (min b1.length 40)))) ++ ([7#8, 7#8, 7#8] : List Byte)) 0 ((([1#8, 2#8] : List Byte) ++ (seg b1 0 (min b1.length 40))).length)).length + ([(BitVec.ofInt 8 (w64 (mark2 + 9)))] : List Byte).length ≤ 140737488355328) ∧
   ∃ b267 : Bool, (
     ∃ x_271 : Bool, lethelaw23_same 0 1 2 (seg ((([] : List Byte) ++ (([1#8, 2#8] : List Byte) ++ (seg b1 0 (min b1.length 40)))) ++ ([7#8, 7#8, 7#8] : List Byte)) 0 ((([1#8, 2#8] : List Byte) ++ (seg b1 0 (min b1.length 40))).length)) 0 1 2 b202 x_271 ∧
     if x_271 = true then (
       ∃ x_275 : Bool, lethelaw23_same 1 2 1 (seg ((([] : List Byte) ++ (([1#8, 2#8] : List Byte) ++ (seg b1 0 (min b1.length 40)))) ++ ([7#8, 7#8, 7#8] : List Byte)) 0 ((([1#8, 2#8] : List Byte) ++ (seg b1 0 (min b1.length 40))).length)) 1 2 1 b202 x_275 ∧
       if x_275 = true then (
         ∃ x_279 : Bool, lethelaw23_same 2 1 2 (seg ((([] : List Byte) ++ (([1#8, 2#8] : List Byte) ++ (seg b1 0 (min b1.length 40)))) ++ ([7#8, 7#8, 7#8] : List Byte)) 0 ((([1#8, 2#8] : List Byte) ++ (seg b1 0 (min b1.length 40))).length)) 2 1 2 b202 x_279 ∧
         b267 = x_279
       ) else (
         b267 = false
       )
     ) else (
       b267 = false
     )
   ) ∧
   if b267 = true then (
     ((seg ((([] : List Byte) ++ (([1#8, 2#8] : List Byte) ++ (seg b1 0 (min b1.length 40)))) ++ ([7#8, 7#8, 7#8] : List Byte)) 0 ((([1#8, 2#8] : List Byte) ++ (seg b1 0 (min b1.length 40))).length)).length ≤ 140737488355328) ∧
     if (seg ((([] : List Byte) ++ (([1#8, 2#8] : List Byte) ++ (seg b1 0 (min b1.length 40)))) ++ ([7#8, 7#8, 7#8] : List Byte)) 0 ((([1#8, 2#8] : List Byte) ++ (seg b1 0 (min b1.length 40))).length)) = b202 then (
       ∃ b387 : Bool, (
         ∃ x_391 : Bool, lethelaw23_same 0 1 2 (seg ((([] : List Byte) ++ (([1#8, 2#8] : List Byte) ++ (seg b1 0 (min b1.length 40)))) ++ ([7#8, 7#8, 7#8] : List Byte)) 0 ((([1#8, 2#8] : List Byte) ++ (seg b1 0 (min b1.length 40))).length)) 0 1 2 b202 x_391 ∧
         if x_391 = true then (
           ∃ x_395 : Bool, lethelaw23_same 1 2 1 (seg ((([] : List Byte) ++ (([1#8, 2#8] : List Byte) ++ (seg b1 0 (min b1.length 40)))) ++ ([7#8, 7#8, 7#8] : List Byte)) 0 ((([1#8, 2#8] : List Byte) ++ (seg b1 0 (min b1.length 40))).length)) 1 2 1 b202 x_395 ∧
           if x_395 = true then (
             ∃ x_399 : Bool, lethelaw23_same 2 1 2 (seg ((([] : List Byte) ++ (([1#8, 2#8] : List Byte) ++ (seg b1 0 (min b1.length 40)))) ++ ([7#8, 7#8, 7#8] : List Byte)) 0 ((([1#8, 2#8] : List Byte) ++ (seg b1 0 (min b1.length 40))).length)) 2 1 2 b202 x_399 ∧
             b387 = x_399
           ) else (
             b387 = false
           )
         ) else (
           b387 = false
         )
       ) ∧
       if b387 = true then (
         ∃ b420 : Bool, (
           ∃ x_424 : Bool, lethelaw23_same 0 1 2 (seg ((([] : List Byte) ++ (([1#8, 2#8] : List Byte) ++ (seg b1 0 (min b1.length 40)))) ++ ([7#8, 7#8, 7#8] : List Byte)) 0 ((([1#8, 2#8] : List Byte) ++ (seg b1 0 (min b1.length 40))).length)) 0 1 2 b202 x_424 ∧
           if x_424 = true then (
             ∃ x_428 : Bool, lethelaw23_same 1 2 1 (seg ((([] : List Byte) ++ (([1#8, 2#8] : List Byte) ++ (seg b1 0 (min b1.length 40)))) ++ ([7#8, 7#8, 7#8] : List Byte)) 0 ((([1#8, 2#8] : List Byte) ++ (seg b1 0 (min b1.length 40))).length)) 1 2 1 b202 x_428 ∧
             if x_428 = true then (
               ∃ x_432 : Bool, lethelaw23_same 2 1 2 (seg ((([] : List Byte) ++ (([1#8, 2#8] : List Byte) ++ (seg b1 0 (min b1.length 40)))) ++ ([7#8, 7#8, 7#8] : List Byte)) 0 ((([1#8, 2#8] : List Byte) ++ (seg b1 0 (min b1.length 40))).length)) 2 1 2 b202 x_432 ∧
               b420 = x_432
             ) else (
               b420 = false
             )
           ) else (
             b420 = false
           )
         ) ∧
         if b420 = true then (
           ∃ b461 : List Byte, ∃ m462 : List Byte, Iter (lethelaw23_NetHands_l4 b1 mark2) (b202, 0, (seg ((([] : List Byte) ++ (([1#8, 2#8] : List Byte) ++ (seg b1 0 (min b1.length 40)))) ++ ([7#8, 7#8, 7#8] : List Byte)) 0 ((([1#8, 2#8] : List Byte) ++ (seg b1 0 (min b1.length 40))).length))) (b461, m462) ∧
           ((seg ((([] : List Byte) ++ (([1#8, 2#8] : List Byte) ++ (seg b1 0 (min b1.length 40)))) ++ ([7#8, 7#8, 7#8] : List Byte)) 0 ((([1#8, 2#8] : List Byte) ++ (seg b1 0 (min b1.length 40))).length)).length + ([(BitVec.ofInt 8 (w64 (mark2 + 4)))] : List Byte).length ≤ 140737488355328) ∧
           if (seg ((([] : List Byte) ++ (([1#8, 2#8] : List Byte) ++ (seg b1 0 (min b1.length 40)))) ++ ([7#8, 7#8, 7#8] : List Byte)) 0 ((([1#8, 2#8] : List Byte) ++ (seg b1 0 (min b1.length 40))).length)) = b461 then (
             ((([1#8, 2#8] : List Byte) ++ (seg b1 0 (min b1.length 40))).length < (m462 ++ ([(BitVec.ofInt 8 (w64 (mark2 + 4)))] : List Byte)).length) ∧
             if (lit (m462 ++ ([(BitVec.ofInt 8 (w64 (mark2 + 4)))] : List Byte)) ((([1#8, 2#8] : List Byte) ++ (seg b1 0 (min b1.length 40))).length)) ≠ (BitVec.ofInt 8 (w64 (mark2 + 4))) then (
               r = false
             ) else (
               (0 < (m462 ++ ([(BitVec.ofInt 8 (w64 (mark2 + 4)))] : List Byte)).length) ∧
               if (lit (m462 ++ ([(BitVec.ofInt 8 (w64 (mark2 + 4)))] : List Byte)) 0) ≠ (BitVec.ofInt 8 (w64 (mark2 + 3))) then (
                 r = false
               ) else (
                 ∃ x542 : Option Unit, Iter (lethelaw23_NetHands_l5 b1 mark2 m125 r) 0 x542 ∧ (x542 = some () →
                 if mark2 ≠ mark2 then (
                   r = false
                 ) else (
                   (-9223372036854775808 ≤ ((((m125 ++ ([(BitVec.ofInt 8 (w64 (mark2 + 9)))] : List Byte)).length : Nat) : Int) - 1) ∧ ((((m125 ++ ([(BitVec.ofInt 8 (w64 (mark2 + 9)))] : List Byte)).length : Nat) : Int) - 1) ≤ 9223372036854775807) ∧
                   (0 ≤ ((((m125 ++ ([(BitVec.ofInt 8 (w64 (mark2 + 9)))] : List Byte)).length : Nat) : Int) - 1) ∧ ((((m125 ++ ([(BitVec.ofInt 8 (w64 (mark2 + 9)))] : List Byte)).length : Nat) : Int) - 1) < (m125 ++ ([(BitVec.ofInt 8 (w64 (mark2 + 9)))] : List Byte)).length) ∧
                   if (lit (m125 ++ ([(BitVec.ofInt 8 (w64 (mark2 + 9)))] : List Byte)) (((((m125 ++ ([(BitVec.ofInt 8 (w64 (mark2 + 9)))] : List Byte)).length : Nat) : Int) - 1).toNat)) ≠ (BitVec.ofInt 8 (w64 (mark2 + 9))) then (
                     r = false
                   ) else (
                     ∃ x599 : Option Unit, Iter (lethelaw23_NetHands_l6 b1 mark2 m164 r) 0 x599 ∧ (x599 = some () →
                     if mark2 ≠ mark2 then (
                       r = false
                     ) else (
                       (-9223372036854775808 ≤ ((((m164 ++ ([(BitVec.ofInt 8 (w64 (mark2 + 9)))] : List Byte)).length : Nat) : Int) - 1) ∧ ((((m164 ++ ([(BitVec.ofInt 8 (w64 (mark2 + 9)))] : List Byte)).length : Nat) : Int) - 1) ≤ 9223372036854775807) ∧
                       (0 ≤ ((((m164 ++ ([(BitVec.ofInt 8 (w64 (mark2 + 9)))] : List Byte)).length : Nat) : Int) - 1) ∧ ((((m164 ++ ([(BitVec.ofInt 8 (w64 (mark2 + 9)))] : List Byte)).length : Nat) : Int) - 1) < (m164 ++ ([(BitVec.ofInt 8 (w64 (mark2 + 9)))] : List Byte)).length) ∧
                       if (lit (m164 ++ ([(BitVec.ofInt 8 (w64 (mark2 + 9)))] : List Byte)) (((((m164 ++ ([(BitVec.ofInt 8 (w64 (mark2 + 9)))] : List Byte)).length : Nat) : Int) - 1).toNat)) ≠ (BitVec.ofInt 8 (w64 (mark2 + 9))) then (
                         r = false
                       ) else (
                         ∃ x655 : Option Unit, Iter (lethelaw23_NetHands_l7 b1 mark2 m203 r) 0 x655 ∧ (x655 = some () →
                         if mark2 ≠ mark2 then (
                           r = false
                         ) else (
                           (-9223372036854775808 ≤ ((((m203 ++ ([(BitVec.ofInt 8 (w64 (mark2 + 9)))] : List Byte)).length : Nat) : Int) - 1) ∧ ((((m203 ++ ([(BitVec.ofInt 8 (w64 (mark2 + 9)))] : List Byte)).length : Nat) : Int) - 1) ≤ 9223372036854775807) ∧
                           (0 ≤ ((((m203 ++ ([(BitVec.ofInt 8 (w64 (mark2 + 9)))] : List Byte)).length : Nat) : Int) - 1) ∧ ((((m203 ++ ([(BitVec.ofInt 8 (w64 (mark2 + 9)))] : List Byte)).length : Nat) : Int) - 1) < (m203 ++ ([(BitVec.ofInt 8 (w64 (mark2 + 9)))] : List Byte)).length) ∧
                           if (lit (m203 ++ ([(BitVec.ofInt 8 (w64 (mark2 + 9)))] : List Byte)) (((((m203 ++ ([(BitVec.ofInt 8 (w64 (mark2 + 9)))] : List Byte)).length : Nat) : Int) - 1).toNat)) ≠ (BitVec.ofInt 8 (w64 (mark2 + 9))) then (
                             r = false
                           ) else (
                             r = true
                           )
                         )
                         )
                       )
                     )
                     )
                   )
                 )
                 )
               )
             )
           ) else (
             r = false
           )
         ) else (
           r = false
         )
       ) else (
         r = false
       )
     ) else (
       r = false
     )
   ) else (
     r = false
   )
 ) else (
   r = false
 )
end Go.Proofs.Ytbkgblhmlenocaa
