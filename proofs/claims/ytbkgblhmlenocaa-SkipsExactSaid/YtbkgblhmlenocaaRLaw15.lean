/-
  RELATIONS of the package's functions, printed by this session's own program (auto.py).
-/
import Derived.Test.YtbkgblhmlenocaaEd
namespace Go.Proofs.Ytbkgblhmlenocaa
set_option linter.unusedSimpArgs false
set_option linter.unusedVariables false
set_option linter.unusedSectionVars false
open Go Go.LW

def lethelaw15_sameList_l0 (a1 : List ((BitVec 32) × (BitVec 32) × (Nat → BitVec 8))) (b2 : List ((BitVec 32) × (BitVec 32) × (Nat → BitVec 8))) (r : Bool) (i_36 : Nat) (o37 : Nat ⊕ (Option Unit)) : Prop :=
  if i_36 < a1.length then (
    (i_36 < a1.length) ∧
    (i_36 < b2.length) ∧
    if ((decide ((a1.getD i_36 (0#32, 0#32, (fun _ => 0#8))).1 = (b2.getD i_36 (0#32, 0#32, (fun _ => 0#8))).1)) && ((decide ((a1.getD i_36 (0#32, 0#32, (fun _ => 0#8))).2.1 = (b2.getD i_36 (0#32, 0#32, (fun _ => 0#8))).2.1)) && ((eqB 32 ((a1.getD i_36 (0#32, 0#32, (fun _ => 0#8))).2.2) ((b2.getD i_36 (0#32, 0#32, (fun _ => 0#8))).2.2)) && true))) = true then (
      ((i_36 + 1) < 9223372036854775808) ∧
      o37 = .inl (i_36 + 1)
    ) else (
      o37 = .inr none ∧ r = false
    )
  ) else (
    o37 = .inr (some ())
  )
def lethelaw15_sameList (a1 : List ((BitVec 32) × (BitVec 32) × (Nat → BitVec 8))) (b2 : List ((BitVec 32) × (BitVec 32) × (Nat → BitVec 8))) (r : Bool) : Prop :=
  if a1.length ≠ b2.length then (
    r = false
  ) else (
    ∃ x37 : Option Unit, Iter (lethelaw15_sameList_l0 a1 b2 r) 0 x37 ∧ (x37 = some () →
    r = true
    )
  )

def lethelaw15_sameKeys_l0 (a1 : List (Nat → BitVec 8)) (b2 : List (Nat → BitVec 8)) (r : Bool) (i_36 : Nat) (o37 : Nat ⊕ (Option Unit)) : Prop :=
  if i_36 < a1.length then (
    (i_36 < a1.length) ∧
    (i_36 < b2.length) ∧
    if (eqB 32 (a1.getD i_36 (fun _ => 0#8)) (b2.getD i_36 (fun _ => 0#8))) = true then (
      ((i_36 + 1) < 9223372036854775808) ∧
      o37 = .inl (i_36 + 1)
    ) else (
      o37 = .inr none ∧ r = false
    )
  ) else (
    o37 = .inr (some ())
  )
def lethelaw15_sameKeys (a1 : List (Nat → BitVec 8)) (b2 : List (Nat → BitVec 8)) (r : Bool) : Prop :=
  if a1.length ≠ b2.length then (
    r = false
  ) else (
    ∃ x37 : Option Unit, Iter (lethelaw15_sameKeys_l0 a1 b2 r) 0 x37 ∧ (x37 = some () →
    r = true
    )
  )
end Go.Proofs.Ytbkgblhmlenocaa
