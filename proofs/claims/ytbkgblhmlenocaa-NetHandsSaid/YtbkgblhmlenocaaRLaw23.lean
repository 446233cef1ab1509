/-
 RELATIONS of the package's functions, printed by this session's own program (auto.py).
-/
import Derived.Test.YtbkgblhmlenocaaEd
namespace Go.Proofs.Ytbkgblhmlenocaa
set_option linter.unusedSimpArgs false
set_option linter.unusedVariables false
set_option linter.unusedSectionVars false
open Go Go.LW
def lethelaw23_same (aNumber1 : Int) (aFrom2 : Int) (aTo3 : Int) (aBytes4 : List Byte) (bNumber5 : Int) (bFrom6 : Int) (bTo7 : Int) (bBytes8 : List Byte) (r : Bool) : Prop :=
 if aNumber1 = bNumber5 then (
   if aFrom2 = bFrom6 then (
     if aTo3 = bTo7 then (
       r = (decide (aBytes4 = bBytes8))
     ) else (
       r = false
     )
   ) else (
     r = false
   )
 ) else (
   r = false
 )
end Go.Proofs.Ytbkgblhmlenocaa
