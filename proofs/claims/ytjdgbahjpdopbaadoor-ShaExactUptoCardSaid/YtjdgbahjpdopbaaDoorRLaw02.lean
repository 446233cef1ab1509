/-
 RELATIONS of the package's functions, printed by this session's own program (auto.py).
-/
import Derived.Test.YtjdgbahjpdopbaaDoorEb
import Derived.Test.YtjdgbahjpdopbaaDoorShaM
import Derived.Test.YtjdgbahjpdopbaaDoorRSha
namespace Go.Proofs.YtjdgbahjpdopbaaDoor
set_option linter.unusedSimpArgs false
set_option linter.unusedVariables false
set_option linter.unusedSectionVars false
open Go Go.LW
def lethelaw02_moves  (r : Bool) : Prop :=
 ∃ x_4 : Nat → BitVec 32, ∃ x_5 : Nat → BitVec 8, ∃ x_6 : Nat, sha_New (x_4, x_5, x_6) ∧
 ∃ x_15 : Nat → BitVec 32, ∃ x_16 : Nat → BitVec 8, ∃ x_17 : Int, sha_Hash_Write x_4 x_5 ((x_6 : Nat) : Int) ([1#8, 2#8, 3#8] : List Byte) (x_15, x_16, x_17) ∧
 ∃ x_21 : Int, sha_Hash_Len x_15 x_16 x_17 x_21 ∧
 r = (decide (x_21 = 3))
def lethelaw02_Room (b1 : List Byte) (r : (List Byte)) : Prop :=
 (0 + b1.length ≤ 140737488355328) ∧
 ((([] : List Byte) ++ b1).length + ([209#8, 210#8, 211#8] : List Byte).length ≤ 140737488355328) ∧
 r = ((([] : List Byte) ++ b1) ++ ([209#8, 210#8, 211#8] : List Byte))
def lethelaw02_Eq (a1 : List Byte) (b2 : List Byte) (r : Bool) : Prop :=
 r = (decide (a1 = b2))
def lethelaw02_Kept (room1 : List Byte) (b2 : List Byte) (r : Bool) : Prop :=
 ∃ x_6 : List Byte, lethelaw02_Room b2 x_6 ∧
 ∃ x_14 : Bool, lethelaw02_Eq room1 x_6 x_14 ∧
 r = x_14
def lethelaw02_rest (n_1 : Int) (m2 : Int) (r : Int) : Prop :=
 (m2 ≠ 0) ∧
 (-9223372036854775808 ≤ ((n_1.tmod m2) + m2) ∧ ((n_1.tmod m2) + m2) ≤ 9223372036854775807) ∧
 (m2 ≠ 0) ∧
 r = (((n_1.tmod m2) + m2).tmod m2)
end Go.Proofs.YtjdgbahjpdopbaaDoor
