/-
 RELATIONS of the package's functions, printed by this session's own program (auto.py).
-/
import Derived.Test.YtbkgblhmlenocaaEd
namespace Go.Proofs.Ytbkgblhmlenocaa
set_option linter.unusedSimpArgs false
set_option linter.unusedVariables false
set_option linter.unusedSectionVars false
open Go Go.LW
def cmp_isNaN_int (x_1 : Int) (r : Bool) : Prop :=
 r = (decide (x_1 ≠ x_1))
def cmp_Compare_int (x_1 : Int) (y2 : Int) (r : Int) : Prop :=
 ∃ x_6 : Bool, cmp_isNaN_int x_1 x_6 ∧
 ∃ x_10 : Bool, cmp_isNaN_int y2 x_10 ∧
 if x_6 = true then (
   if x_10 = true then (
     r = 0
   ) else (
     r = (-1)
   )
 ) else (
   if x_10 = true then (
     r = 1
   ) else (
     if x_1 < y2 then (
       r = (-1)
     ) else (
       if y2 < x_1 then (
         r = 1
       ) else (
         r = 0
       )
     )
   )
 )
end Go.Proofs.Ytbkgblhmlenocaa
