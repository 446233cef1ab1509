/-
 RELATIONS of the package's functions, printed by this session's own program (auto.py).
-/
import Derived.Test.YthjkmhdgenmnoaaDoorEc
import Derived.Test.YthjkmhdgenmnoaaDoorShaM
import Derived.Test.YthjkmhdgenmnoaaDoorRRef05
import Derived.Test.YthjkmhdgenmnoaaDoorRSeal
namespace Go.Proofs.YthjkmhdgenmnoaaDoor
set_option linter.unusedSimpArgs false
set_option linter.unusedVariables false
set_option linter.unusedSectionVars false
open Go Go.LW
def lethelaw05_Room (b1 : List Byte) (r : (List Byte)) : Prop :=
 (0 + b1.length ≤ 140737488355328) ∧
 ((([] : List Byte) ++ b1).length + ([209#8, 210#8, 211#8] : List Byte).length ≤ 140737488355328) ∧
 r = ((([] : List Byte) ++ b1) ++ ([209#8, 210#8, 211#8] : List Byte))
def lethelaw05_Eq (a1 : List Byte) (b2 : List Byte) (r : Bool) : Prop :=
 r = (decide (a1 = b2))
def lethelaw05_Book_Note_l0 (bLists2 : List (List Byte)) (l_4 : List Byte) (s : ((List Byte) × (List Byte) × Nat)) (o50 : ((List Byte) × (List Byte) × Nat) ⊕ ((List Byte) × (List Byte))) : Prop :=
 match s with
 | (l_44, want45, i_47) =>
   if i_47 < l_4.length then (
     ((((bLists2.length * 29) + 7) + i_47) < 9223372036854775808) ∧
     (i_47 < l_4.length) ∧
     (i_47 < l_4.length) ∧
     (want45.length + ([(lit (l_44.set i_47 (BitVec.ofNat 8 (((bLists2.length * 29) + 7) + i_47))) i_47)] : List Byte).length ≤ 140737488355328) ∧
     ((i_47 + 1) < 9223372036854775808) ∧
     o50 = .inl ((l_44.set i_47 (BitVec.ofNat 8 (((bLists2.length * 29) + 7) + i_47))), (want45 ++ ([(lit (l_44.set i_47 (BitVec.ofNat 8 (((bLists2.length * 29) + 7) + i_47))) i_47)] : List Byte)), (i_47 + 1))
   ) else (
     o50 = .inr (l_44, want45)
   )
def lethelaw05_Book_Note (bLists2 : List (List Byte)) (bWant3 : List (List Byte)) (l_4 : List Byte) (r : ((List (List Byte)) × (List (List Byte)))) : Prop :=
 ((bLists2.length * 29) < 9223372036854775808) ∧
 (((bLists2.length * 29) + 7) < 9223372036854775808) ∧
 ∃ l_48 : List Byte, ∃ want49 : List Byte, Iter (lethelaw05_Book_Note_l0 bLists2 l_4) (l_4, ([] : List Byte), 0) (l_48, want49) ∧
 ((((bLists2.length * 29) + 7) * 3) < 9223372036854775808) ∧
 (((((bLists2.length * 29) + 7) * 3) + 1) < 9223372036854775808) ∧
 (l_4.length + ([(BitVec.ofNat 8 ((((bLists2.length * 29) + 7) * 3) + 1)), (BitVec.ofNat 8 ((((bLists2.length * 29) + 7) * 3) + 1)), (BitVec.ofNat 8 ((((bLists2.length * 29) + 7) * 3) + 1))] : List Byte).length ≤ 140737488355328) ∧
 ((bLists2.length + ([l_48, (l_48 ++ ([(BitVec.ofNat 8 ((((bLists2.length * 29) + 7) * 3) + 1)), (BitVec.ofNat 8 ((((bLists2.length * 29) + 7) * 3) + 1)), (BitVec.ofNat 8 ((((bLists2.length * 29) + 7) * 3) + 1))] : List Byte))] : List (List Byte)).length) * 24 ≤ 140737488355328 ∧ bLists2.length + ([l_48, (l_48 ++ ([(BitVec.ofNat 8 ((((bLists2.length * 29) + 7) * 3) + 1)), (BitVec.ofNat 8 ((((bLists2.length * 29) + 7) * 3) + 1)), (BitVec.ofNat 8 ((((bLists2.length * 29) + 7) * 3) + 1))] : List Byte))] : List (List Byte)).length < 9223372036854775808) ∧
 (want49.length + ([(BitVec.ofNat 8 ((((bLists2.length * 29) + 7) * 3) + 1)), (BitVec.ofNat 8 ((((bLists2.length * 29) + 7) * 3) + 1)), (BitVec.ofNat 8 ((((bLists2.length * 29) + 7) * 3) + 1))] : List Byte).length ≤ 140737488355328) ∧
 ((bWant3.length + ([want49, (want49 ++ ([(BitVec.ofNat 8 ((((bLists2.length * 29) + 7) * 3) + 1)), (BitVec.ofNat 8 ((((bLists2.length * 29) + 7) * 3) + 1)), (BitVec.ofNat 8 ((((bLists2.length * 29) + 7) * 3) + 1))] : List Byte))] : List (List Byte)).length) * 24 ≤ 140737488355328 ∧ bWant3.length + ([want49, (want49 ++ ([(BitVec.ofNat 8 ((((bLists2.length * 29) + 7) * 3) + 1)), (BitVec.ofNat 8 ((((bLists2.length * 29) + 7) * 3) + 1)), (BitVec.ofNat 8 ((((bLists2.length * 29) + 7) * 3) + 1))] : List Byte))] : List (List Byte)).length < 9223372036854775808) ∧
 r = ((bLists2 ++ ([l_48, (l_48 ++ ([(BitVec.ofNat 8 ((((bLists2.length * 29) + 7) * 3) + 1)), (BitVec.ofNat 8 ((((bLists2.length * 29) + 7) * 3) + 1)), (BitVec.ofNat 8 ((((bLists2.length * 29) + 7) * 3) + 1))] : List Byte))] : List (List Byte))), (bWant3 ++ ([want49, (want49 ++ ([(BitVec.ofNat 8 ((((bLists2.length * 29) + 7) * 3) + 1)), (BitVec.ofNat 8 ((((bLists2.length * 29) + 7) * 3) + 1)), (BitVec.ofNat 8 ((((bLists2.length * 29) + 7) * 3) + 1))] : List Byte))] : List (List Byte))))
def lethelaw05_Kept (room1 : List Byte) (b2 : List Byte) (r : Bool) : Prop :=
 ∃ x_6 : List Byte, lethelaw05_Room b2 x_6 ∧
 ∃ x_14 : Bool, lethelaw05_Eq room1 x_6 x_14 ∧
 r = x_14
def lethelaw05_Book_plays (bLists2 : List (List Byte)) (bWant3 : List (List Byte)) (oKind4 : Int) (oKey5 : Nat → BitVec 8) (oData6 : List Byte) (oB7 : List Byte) (oN8 : Int) (r : (Bool × (List (List Byte)) × (List (List Byte)))) : Prop :=
 ∃ x_14 : List Byte, lethelaw05_Room oData6 x_14 ∧
 ∃ x_22 : List Byte, lethelaw05_Room oB7 x_22 ∧
 (0 ≤ oData6.length ∧ oData6.length ≤ x_14.length) ∧
 (0 ≤ oB7.length ∧ oB7.length ≤ x_22.length) ∧
 ∃ ok294 : Bool, ∃ x_289 : List Byte, ∃ y290 : List Byte, ∃ ok291 : Bool, ∃ m292 : List (List Byte), ∃ m293 : List (List Byte), (
   if oKind4 = 1 then (
     ∃ x_300 : List Byte, ∃ x_301 : Nat, seal_Seal oKey5 (seg x_14 0 oData6.length) (seg x_22 0 oB7.length) (x_300, x_301) ∧
     ∃ x_310 : List Byte, ∃ x_311 : Nat, letheref05_Seal oKey5 oData6 oB7 (x_310, x_311) ∧
     if x_301 = x_311 then (
       ∃ x_321 : Bool, lethelaw05_Eq x_300 x_310 x_321 ∧
       ∃ x_325 : List (List Byte), ∃ x_326 : List (List Byte), lethelaw05_Book_Note bLists2 bWant3 x_300 (x_325, x_326) ∧
       ok294 = true ∧ x_289 = x_14 ∧ y290 = x_22 ∧ ok291 = x_321 ∧ m292 = x_325 ∧ m293 = x_326
     ) else (
       ∃ x_347 : List (List Byte), ∃ x_348 : List (List Byte), lethelaw05_Book_Note bLists2 bWant3 x_300 (x_347, x_348) ∧
       ok294 = true ∧ x_289 = x_14 ∧ y290 = x_22 ∧ ok291 = false ∧ m292 = x_347 ∧ m293 = x_348
     )
   ) else (
     if oKind4 = 2 then (
       ∃ x_371 : List Byte, ∃ x_372 : Nat, seal_Open oKey5 (seg x_14 0 oData6.length) (seg x_22 0 oB7.length) (x_371, x_372) ∧
       ∃ x_381 : List Byte, ∃ x_382 : Nat, letheref05_Open oKey5 oData6 oB7 (x_381, x_382) ∧
       if x_372 = x_382 then (
         ∃ x_392 : Bool, lethelaw05_Eq x_371 x_381 x_392 ∧
         ∃ x_396 : List (List Byte), ∃ x_397 : List (List Byte), lethelaw05_Book_Note bLists2 bWant3 x_371 (x_396, x_397) ∧
         ok294 = true ∧ x_289 = x_14 ∧ y290 = x_22 ∧ ok291 = x_392 ∧ m292 = x_396 ∧ m293 = x_397
       ) else (
         ∃ x_418 : List (List Byte), ∃ x_419 : List (List Byte), lethelaw05_Book_Note bLists2 bWant3 x_371 (x_418, x_419) ∧
         ok294 = true ∧ x_289 = x_14 ∧ y290 = x_22 ∧ ok291 = false ∧ m292 = x_418 ∧ m293 = x_419
       )
     ) else (
       if oKind4 = 3 then (
         ∃ x_443 : Int, seal_Length oN8 x_443 ∧
         ∃ x_446 : Int, letheref05_Length oN8 x_446 ∧
         ok294 = false ∧ r = ((decide (x_443 = x_446)), bLists2, bWant3)
       ) else (
         if oKind4 = 4 then (
           ∃ x_453 : List Byte, ∃ x_454 : Nat, letheref05_Seal oKey5 oData6 oB7 (x_453, x_454) ∧
           if x_454 ≠ 0 then (
             ok294 = false ∧ r = (true, bLists2, bWant3)
           ) else (
             ∃ x_468 : List Byte, lethelaw05_Room x_453 x_468 ∧
             (0 ≤ x_453.length ∧ x_453.length ≤ x_468.length) ∧
             ∃ x_480 : List Byte, ∃ x_481 : Nat, seal_Open oKey5 (seg x_14 0 oData6.length) (seg x_468 0 x_453.length) (x_480, x_481) ∧
             if x_481 = 0 then (
               ∃ x_491 : Bool, lethelaw05_Eq x_480 oB7 x_491 ∧
               if x_491 = true then (
                 ∃ x_495 : Bool, lethelaw05_Kept x_468 x_453 x_495 ∧
                 ∃ x_499 : List (List Byte), ∃ x_500 : List (List Byte), lethelaw05_Book_Note bLists2 bWant3 x_480 (x_499, x_500) ∧
                 ok294 = true ∧ x_289 = x_14 ∧ y290 = x_22 ∧ ok291 = x_495 ∧ m292 = x_499 ∧ m293 = x_500
               ) else (
                 ∃ x_521 : List (List Byte), ∃ x_522 : List (List Byte), lethelaw05_Book_Note bLists2 bWant3 x_480 (x_521, x_522) ∧
                 ok294 = true ∧ x_289 = x_14 ∧ y290 = x_22 ∧ ok291 = false ∧ m292 = x_521 ∧ m293 = x_522
               )
             ) else (
               ∃ x_543 : List (List Byte), ∃ x_544 : List (List Byte), lethelaw05_Book_Note bLists2 bWant3 x_480 (x_543, x_544) ∧
               ok294 = true ∧ x_289 = x_14 ∧ y290 = x_22 ∧ ok291 = false ∧ m292 = x_543 ∧ m293 = x_544
             )
           )
         ) else (
           ok294 = true ∧ x_289 = x_14 ∧ y290 = x_22 ∧ ok291 = true ∧ m292 = bLists2 ∧ m293 = bWant3
         )
       )
     )
   )
 ) ∧
 (ok294 = true →
 if ok291 = true then (
   ∃ x_572 : Bool, lethelaw05_Kept x_289 oData6 x_572 ∧
   if x_572 = true then (
     ∃ x_576 : Bool, lethelaw05_Kept y290 oB7 x_576 ∧
     r = (x_576, m292, m293)
   ) else (
     r = (false, m292, m293)
   )
 ) else (
   r = (false, m292, m293)
 )
 )
def lethelaw05_Book_Holds_l0 (bLists2 : List (List Byte)) (bWant3 : List (List Byte)) (r : Bool) (i_39 : Nat) (o40 : Nat ⊕ (Option Unit)) : Prop :=
 if i_39 < bLists2.length then (
   (i_39 < bLists2.length) ∧
   (i_39 < bWant3.length) ∧
   ∃ x_53 : Bool, lethelaw05_Eq ((bLists2.getD i_39 ([] : List Byte))) ((bWant3.getD i_39 ([] : List Byte))) x_53 ∧
   if x_53 = true then (
     ((i_39 + 1) < 9223372036854775808) ∧
     o40 = .inl (i_39 + 1)
   ) else (
     o40 = .inr none ∧ r = false
   )
 ) else (
   o40 = .inr (some ())
 )
def lethelaw05_Book_Holds (bLists2 : List (List Byte)) (bWant3 : List (List Byte)) (r : Bool) : Prop :=
 ∃ x40 : Option Unit, Iter (lethelaw05_Book_Holds_l0 bLists2 bWant3 r) 0 x40 ∧ (x40 = some () →
 r = true
 )
end Go.Proofs.YthjkmhdgenmnoaaDoor
