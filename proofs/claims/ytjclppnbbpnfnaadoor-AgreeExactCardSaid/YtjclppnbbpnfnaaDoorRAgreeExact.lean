/-
 RELATIONS of the package's functions, printed by this session's own program (auto.py).
-/
import Derived.Test.YtjclppnbbpnfnaaDoorEb
import Derived.Test.YtjclppnbbpnfnaaDoorFldT
import Derived.Test.YtjclppnbbpnfnaaDoorShaM
import Derived.Test.YtjclppnbbpnfnaaDoorRLaw17
namespace Go.Proofs.YtjclppnbbpnfnaaDoor
set_option linter.unusedSimpArgs false
set_option linter.unusedVariables false
set_option linter.unusedSectionVars false
open Go Go.LW
def lethelaw17_AgreeExact_l0 (script1 : List (Int × (Nat → BitVec 8) × (Nat → BitVec 8) × (Nat → BitVec 8) × (Nat → BitVec 8) × (Nat → BitVec 8) × (BitVec 32) × (Nat → BitVec 8) × (Nat → BitVec 8) × (Nat → BitVec 8) × (BitVec 32))) (r : Bool) (i_40 : Nat) (o41 : Nat ⊕ (Option Unit)) : Prop :=
 if i_40 < script1.length then (
   if i_40 < 4 then (
     (i_40 < script1.length) ∧
     ∃ x_55 : Bool, lethelaw17_plays ((script1.getD i_40 ((0 : Int), (fun _ => 0#8), (fun _ => 0#8), (fun _ => 0#8), (fun _ => 0#8), (fun _ => 0#8), 0#32, (fun _ => 0#8), (fun _ => 0#8), (fun _ => 0#8), 0#32)).1) ((script1.getD i_40 ((0 : Int), (fun _ => 0#8), (fun _ => 0#8), (fun _ => 0#8), (fun _ => 0#8), (fun _ => 0#8), 0#32, (fun _ => 0#8), (fun _ => 0#8), (fun _ => 0#8), 0#32)).2.1) ((script1.getD i_40 ((0 : Int), (fun _ => 0#8), (fun _ => 0#8), (fun _ => 0#8), (fun _ => 0#8), (fun _ => 0#8), 0#32, (fun _ => 0#8), (fun _ => 0#8), (fun _ => 0#8), 0#32)).2.2.1) ((script1.getD i_40 ((0 : Int), (fun _ => 0#8), (fun _ => 0#8), (fun _ => 0#8), (fun _ => 0#8), (fun _ => 0#8), 0#32, (fun _ => 0#8), (fun _ => 0#8), (fun _ => 0#8), 0#32)).2.2.2.1) ((script1.getD i_40 ((0 : Int), (fun _ => 0#8), (fun _ => 0#8), (fun _ => 0#8), (fun _ => 0#8), (fun _ => 0#8), 0#32, (fun _ => 0#8), (fun _ => 0#8), (fun _ => 0#8), 0#32)).2.2.2.2.1) ((script1.getD i_40 ((0 : Int), (fun _ => 0#8), (fun _ => 0#8), (fun _ => 0#8), (fun _ => 0#8), (fun _ => 0#8), 0#32, (fun _ => 0#8), (fun _ => 0#8), (fun _ => 0#8), 0#32)).2.2.2.2.2.1) ((script1.getD i_40 ((0 : Int), (fun _ => 0#8), (fun _ => 0#8), (fun _ => 0#8), (fun _ => 0#8), (fun _ => 0#8), 0#32, (fun _ => 0#8), (fun _ => 0#8), (fun _ => 0#8), 0#32)).2.2.2.2.2.2.1) ((script1.getD i_40 ((0 : Int), (fun _ => 0#8), (fun _ => 0#8), (fun _ => 0#8), (fun _ => 0#8), (fun _ => 0#8), 0#32, (fun _ => 0#8), (fun _ => 0#8), (fun _ => 0#8), 0#32)).2.2.2.2.2.2.2.1) ((script1.getD i_40 ((0 : Int), (fun _ => 0#8), (fun _ => 0#8), (fun _ => 0#8), (fun _ => 0#8), (fun _ => 0#8), 0#32, (fun _ => 0#8), (fun _ => 0#8), (fun _ => 0#8), 0#32)).2.2.2.2.2.2.2.2.1) ((script1.getD i_40 ((0 : Int), (fun _ => 0#8), (fun _ => 0#8), (fun _ => 0#8), (fun _ => 0#8), (fun _ => 0#8), 0#32, (fun _ => 0#8), (fun _ => 0#8), (fun _ => 0#8), 0#32)).2.2.2.2.2.2.2.2.2.1) ((script1.getD i_40 ((0 : Int), (fun _ => 0#8), (fun _ => 0#8), (fun _ => 0#8), (fun _ => 0#8), (fun _ => 0#8), 0#32, (fun _ => 0#8), (fun _ => 0#8), (fun _ => 0#8), 0#32)).2.2.2.2.2.2.2.2.2.2) x_55 ∧
     if x_55 = true then (
       o41 = .inl (i_40 + 1)
     ) else (
       o41 = .inr none ∧ r = false
     )
   ) else (
     o41 = .inr (some ())
   )
 ) else (
   o41 = .inr (some ())
 )
def lethelaw17_AgreeExact (script1 : List (Int × (Nat → BitVec 8) × (Nat → BitVec 8) × (Nat → BitVec 8) × (Nat → BitVec 8) × (Nat → BitVec 8) × (BitVec 32) × (Nat → BitVec 8) × (Nat → BitVec 8) × (Nat → BitVec 8) × (BitVec 32))) (r : Bool) : Prop :=
 ∃ x41 : Option Unit, Iter (lethelaw17_AgreeExact_l0 script1 r) 0 x41 ∧ (x41 = some () →
 ∃ x_66 : Bool, lethelaw17_plays 1 (upd (fun _ => 0#8) 0 (8#8)) (upd (fun _ => 0#8) 0 (9#8)) (upd (fun _ => 0#8) 0 (8#8)) (upd (fun _ => 0#8) 0 (9#8)) (upd (fun _ => 0#8) 0 (9#8)) (7#32) (upd (fun _ => 0#8) 0 (9#8)) (fun _ => 0#8) (fun _ => 0#8) (0#32) x_66 ∧
 r = x_66
 )
end Go.Proofs.YtjclppnbbpnfnaaDoor
