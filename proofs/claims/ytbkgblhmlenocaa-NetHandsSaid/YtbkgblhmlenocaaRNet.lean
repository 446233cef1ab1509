/-
 RELATIONS of the package's functions, printed by this session's own program (auto.py).
-/
import Derived.Test.YtbkgblhmlenocaaEd
import Derived.Test.YtbkgblhmlenocaaRCmp
namespace Go.Proofs.Ytbkgblhmlenocaa
set_option linter.unusedSimpArgs false
set_option linter.unusedVariables false
set_option linter.unusedSectionVars false
open Go Go.LW
def net_New (nodes1 : Int) (most2 : Int) (r : Nat ⊕ (Int × Int × (List (Int × (Int × Int × Int × (Option Addr × Nat × Nat)))) × Nat × Nat)) : Prop :=
 if nodes1 < 1 then (
   r = (.inl 2)
 ) else (
   if 4 < nodes1 then (
     r = (.inl 2)
   ) else (
     if most2 < 0 then (
       r = (.inl 2)
     ) else (
       if 4096 < most2 then (
         r = (.inl 2)
       ) else (
         r = (.inr (nodes1, most2, ([] : List (Int × (Int × Int × Int × (Option Addr × Nat × Nat)))), 0, 0))
       )
     )
   )
 )
def net_Net_Flights_1 (aNumber1 : Int) (aFrom2 : Int) (aTo3 : Int) (aBytes4 : Option Addr × Nat × Nat) (bNumber5 : Int) (bFrom6 : Int) (bTo7 : Int) (bBytes8 : Option Addr × Nat × Nat) (r : Int) : Prop :=
 ∃ x_14 : Int, cmp_Compare_int aNumber1 bNumber5 x_14 ∧
 r = x_14
end Go.Proofs.Ytbkgblhmlenocaa
