/-
  RELATIONS of the package's functions, printed by this session's own program (auto.py).
-/
import Derived.Test.YtjblfkmmbpcpaaaDoorEb
import Derived.Test.YtjblfkmmbpcpaaaDoorFldT
import Derived.Test.YtjblfkmmbpcpaaaDoorRLaw07
namespace Go.Proofs.YtjblfkmmbpcpaaaDoor
set_option linter.unusedSimpArgs false
set_option linter.unusedVariables false
set_option linter.unusedSectionVars false
open Go Go.LW

def lethelaw07_CurveExact_l0 (script1 : List (Int × (Nat → BitVec 8) × (Nat → BitVec 8) × (List Byte))) (s : (Bool × Nat)) (o44 : (Bool × Nat) ⊕ Bool) : Prop :=
  match s with
  | (ok41, i_42) =>
    if ok41 = true then (
      if i_42 < script1.length then (
        if i_42 < 6 then (
          (i_42 < script1.length) ∧
          ∃ x_59 : Bool, lethelaw07_plays ((script1.getD i_42 ((0 : Int), (fun _ => 0#8), (fun _ => 0#8), ([] : List Byte))).1) ((script1.getD i_42 ((0 : Int), (fun _ => 0#8), (fun _ => 0#8), ([] : List Byte))).2.1) ((script1.getD i_42 ((0 : Int), (fun _ => 0#8), (fun _ => 0#8), ([] : List Byte))).2.2.1) ((script1.getD i_42 ((0 : Int), (fun _ => 0#8), (fun _ => 0#8), ([] : List Byte))).2.2.2) x_59 ∧
          o44 = .inl (x_59, (i_42 + 1))
        ) else (
          o44 = .inr ok41
        )
      ) else (
        o44 = .inr ok41
      )
    ) else (
      o44 = .inr ok41
    )
def lethelaw07_CurveExact (script1 : List (Int × (Nat → BitVec 8) × (Nat → BitVec 8) × (List Byte))) (r : Bool) : Prop :=
  ∃ x_5 : Bool, lethelaw07_fixed x_5 ∧
  ∃ ok43 : Bool, Iter (lethelaw07_CurveExact_l0 script1) (x_5, 0) ok43 ∧
  r = ok43
end Go.Proofs.YtjblfkmmbpcpaaaDoor
