/-
  RELATIONS of the package's functions, printed by this session's own program (auto.py).
-/
import Derived.Test.YtjdgbahjpdopbaaDoorLx9
import Derived.Test.YtjdgbahjpdopbaaDoorShaM
import Derived.Test.YtjdgbahjpdopbaaDoorRRef03
namespace Go.Proofs.YtjdgbahjpdopbaaDoor
set_option linter.unusedSimpArgs false
set_option linter.unusedVariables false
set_option linter.unusedSectionVars false
open Go Go.LW

def letheref13_key_l0 (b1 : List Byte) (i_2 : Int) (s : (Nat × (Nat → BitVec 8))) (o30 : (Nat × (Nat → BitVec 8)) ⊕ (Nat → BitVec 8)) : Prop :=
  match s with
  | (j27, m28) =>
    if j27 < 32 then (
      (-9223372036854775808 ≤ (i_2 + ((j27 : Nat) : Int)) ∧ (i_2 + ((j27 : Nat) : Int)) ≤ 9223372036854775807) ∧
      (0 ≤ (i_2 + ((j27 : Nat) : Int)) ∧ (i_2 + ((j27 : Nat) : Int)) < b1.length) ∧
      o30 = .inl ((j27 + 1), (upd m28 j27 (lit b1 ((i_2 + ((j27 : Nat) : Int)).toNat))))
    ) else (
      o30 = .inr m28
    )
def letheref13_key (b1 : List Byte) (i_2 : Int) (r : (Nat → BitVec 8)) : Prop :=
  ∃ m29 : Nat → BitVec 8, Iter (letheref13_key_l0 b1 i_2) (0, (fun _ => 0#8)) m29 ∧
  r = m29

def letheref13_Root (root1 : Nat → BitVec 8) (shared2 : Nat → BitVec 8) (r : ((Nat → BitVec 8) × (Nat → BitVec 8))) : Prop :=
  ((∃ x_12 : List Byte, ∃ x_13 : Nat, letheref03_Derive (dl 32 root1) (dl 32 shared2) (dl 10 (lit ([108#8, 101#8, 116#8, 104#8, 101#8, 32#8, 114#8, 111#8, 111#8, 116#8] : List Byte))) 64 (.inl (x_12, x_13)) ∧
    ∃ x_24 : Nat → BitVec 8, letheref13_key x_12 0 x_24 ∧
    ∃ x_27 : Nat → BitVec 8, letheref13_key x_12 32 x_27 ∧
    r = (x_24, x_27)
  ) ∨ (∃ x_14 : List Byte, ∃ x_15 : Nat, letheref03_Derive (dl 32 root1) (dl 32 shared2) (dl 10 (lit ([108#8, 101#8, 116#8, 104#8, 101#8, 32#8, 114#8, 111#8, 111#8, 116#8] : List Byte))) 64 (.inr (x_14, x_15)) ∧
    ∃ x_39 : Nat → BitVec 8, letheref13_key x_14 0 x_39 ∧
    ∃ x_42 : Nat → BitVec 8, letheref13_key x_14 32 x_42 ∧
    r = (x_39, x_42)
  ))

def letheref13_Step (k1 : Nat → BitVec 8) (r : ((Nat → BitVec 8) × (Nat → BitVec 8))) : Prop :=
  ∃ x_9 : Nat → BitVec 8, letheref03_Mac (dl 32 k1) ([1#8] : List Byte) x_9 ∧
  ∃ x_16 : Nat → BitVec 8, letheref03_Mac (dl 32 k1) ([2#8] : List Byte) x_16 ∧
  ∃ x_23 : Nat → BitVec 8, letheref13_key (dl 32 x_16) 0 x_23 ∧
  ∃ x_26 : Nat → BitVec 8, letheref13_key (dl 32 x_9) 0 x_26 ∧
  r = (x_23, x_26)

def letheref13_Ahead_l0 (n_2 : Int) (s : ((List (Nat → BitVec 8)) × Nat × (Nat → BitVec 8))) (o77 : ((List (Nat → BitVec 8)) × Nat × (Nat → BitVec 8)) ⊕ ((List (Nat → BitVec 8)) × (Nat → BitVec 8))) : Prop :=
  match s with
  | (out71, i_73, m74) =>
    if ((i_73 : Nat) : Int) < n_2 then (
      ∃ x_86 : Nat → BitVec 8, ∃ x_87 : Nat → BitVec 8, letheref13_Step m74 (x_86, x_87) ∧
      ((out71.length + ([x_87] : List (Nat → BitVec 8)).length) * 32 ≤ 140737488355328 ∧ out71.length + ([x_87] : List (Nat → BitVec 8)).length < 9223372036854775808) ∧
      o77 = .inl ((out71 ++ ([x_87] : List (Nat → BitVec 8))), (i_73 + 1), x_86)
    ) else (
      o77 = .inr (out71, m74)
    )
def letheref13_Ahead (k1 : Nat → BitVec 8) (n_2 : Int) (r : ((Nat → BitVec 8) × (List (Nat → BitVec 8)) × Nat)) : Prop :=
  if n_2 < 0 then (
    r = ((fun _ => 0#8), ([] : List (Nat → BitVec 8)), 4)
  ) else (
    if 256 < n_2 then (
      r = ((fun _ => 0#8), ([] : List (Nat → BitVec 8)), 4)
    ) else (
      ∃ out75 : List (Nat → BitVec 8), ∃ m76 : Nat → BitVec 8, Iter (letheref13_Ahead_l0 n_2) (([] : List (Nat → BitVec 8)), 0, k1) (out75, m76) ∧
      r = (m76, out75, 0)
    )
  )
end Go.Proofs.YtjdgbahjpdopbaaDoor
