/-
  RELATIONS of the package's functions, printed by this session's own program (auto.py).
-/
import Derived.Test.YtjblfkmmbpcpaaaDoorEb
import Derived.Test.YtjblfkmmbpcpaaaDoorFldT
import Derived.Test.YtjblfkmmbpcpaaaDoorRField
import Derived.Test.YtjblfkmmbpcpaaaDoorRLaw06
namespace Go.Proofs.YtjblfkmmbpcpaaaDoor
set_option linter.unusedSimpArgs false
set_option linter.unusedVariables false
set_option linter.unusedSectionVars false
open Go Go.LW

def lethelaw06_FieldExact_l0 (script1 : List (Int × Int × Int × Int × (Nat → BitVec 8) × (BitVec 32) × Int)) (r : Bool) (s : (Nat × (Nat → BitVec 64) × (Nat → Int) × Int)) (o68 : (Nat × (Nat → BitVec 64) × (Nat → Int) × Int) ⊕ (Option ((Nat → BitVec 64) × (Nat → Int) × Int))) : Prop :=
  match s with
  | (i_61, m62, m63, m64) =>
    if i_61 < script1.length then (
      if i_61 < 60 then (
        (i_61 < script1.length) ∧
        ∃ x_82 : Bool, ∃ x_83 : Nat → BitVec 64, ∃ x_84 : Nat → Int, ∃ x_85 : Int, lethelaw06_table_plays m62 m63 m64 ((script1.getD i_61 ((0 : Int), (0 : Int), (0 : Int), (0 : Int), (fun _ => 0#8), 0#32, (0 : Int))).1) ((script1.getD i_61 ((0 : Int), (0 : Int), (0 : Int), (0 : Int), (fun _ => 0#8), 0#32, (0 : Int))).2.1) ((script1.getD i_61 ((0 : Int), (0 : Int), (0 : Int), (0 : Int), (fun _ => 0#8), 0#32, (0 : Int))).2.2.1) ((script1.getD i_61 ((0 : Int), (0 : Int), (0 : Int), (0 : Int), (fun _ => 0#8), 0#32, (0 : Int))).2.2.2.1) ((script1.getD i_61 ((0 : Int), (0 : Int), (0 : Int), (0 : Int), (fun _ => 0#8), 0#32, (0 : Int))).2.2.2.2.1) ((script1.getD i_61 ((0 : Int), (0 : Int), (0 : Int), (0 : Int), (fun _ => 0#8), 0#32, (0 : Int))).2.2.2.2.2.1) ((script1.getD i_61 ((0 : Int), (0 : Int), (0 : Int), (0 : Int), (fun _ => 0#8), 0#32, (0 : Int))).2.2.2.2.2.2) (x_82, x_83, x_84, x_85) ∧
        if x_82 = true then (
          ∃ x_90 : Bool, lethelaw06_table_same x_83 x_84 x_85 x_90 ∧
          if x_90 = true then (
            o68 = .inl ((i_61 + 1), x_83, x_84, x_85)
          ) else (
            o68 = .inr none ∧ r = false
          )
        ) else (
          o68 = .inr none ∧ r = false
        )
      ) else (
        o68 = .inr (some (m62, m63, m64))
      )
    ) else (
      o68 = .inr (some (m62, m63, m64))
    )
def lethelaw06_FieldExact (script1 : List (Int × Int × Int × Int × (Nat → BitVec 8) × (BitVec 32) × Int)) (r : Bool) : Prop :=
  ∃ x68 : Option ((Nat → BitVec 64) × (Nat → Int) × Int), Iter (lethelaw06_FieldExact_l0 script1 r) (0, (fun _ => 0#64), (fun _ => (0 : Int)), 0) x68 ∧ (∀ (m65 : Nat → BitVec 64) (m66 : Nat → Int) (m67 : Int), x68 = some (m65, m66, m67) →
  ∃ x_101 : Bool, lethelaw06_table_same m65 m66 m67 x_101 ∧
  if x_101 = true then (
    ∃ x_105 : Bool, field_Elem_Equal (fun q => m65 ((0 * 5) + q)) (fun q => m65 ((1 * 5) + q)) x_105 ∧
    if (x_105 == (eqI 16 (fun q => m66 ((0 * 16) + q)) (fun q => m66 ((1 * 16) + q)))) = true then (
      ∃ x_109 : Nat → BitVec 64, field_Small (7#32) x_109 ∧
      ∃ x_112 : Nat → BitVec 8, field_Elem_Bytes x_109 x_112 ∧
      r = (eqB 32 x_112 (upd (fun _ => 0#8) 0 (7#8)))
    ) else (
      r = false
    )
  ) else (
    r = false
  )
  )
end Go.Proofs.YtjblfkmmbpcpaaaDoor
