/-
  RELATIONS of the package's functions, printed by this session's own program (auto.py).
-/
import Derived.Test.YthjkmhdgenmnoaaDoorLx6
import Derived.Test.YthjkmhdgenmnoaaDoorShaM
import Derived.Test.YthjkmhdgenmnoaaDoorRKdf
namespace Go.Proofs.YthjkmhdgenmnoaaDoor
set_option linter.unusedSimpArgs false
set_option linter.unusedVariables false
set_option linter.unusedSectionVars false
open Go Go.LW

def lethelaw05_short (b1 : List Byte) (most2 : Int) (r : (List Byte)) : Prop :=
  if most2 < ((b1.length : Nat) : Int) then (
    (0 ≤ most2) ∧
    (0 ≤ most2.toNat ∧ most2.toNat ≤ b1.length) ∧
    r = (seg b1 0 most2.toNat)
  ) else (
    r = b1
  )

def lethelaw05_Eq (a1 : List Byte) (b2 : List Byte) (r : Bool) : Prop :=
  r = (decide (a1 = b2))

def lethelaw05_three (key1 : Nat → BitVec 8) (r : ((List Byte) × (List Byte) × (Nat → BitVec 8) × Bool) ⊕ ((List Byte) × (List Byte) × (Nat → BitVec 8) × Bool)) : Prop :=
  ∃ b52 : List Byte, ∃ e_53 : Nat, (
    ∃ x_59 : List Byte, ∃ x_60 : Nat, kdf_Derive (List.replicate 32 0#8) (dl 32 key1) (dl 10 (lit ([108#8, 101#8, 116#8, 104#8, 101#8, 32#8, 115#8, 101#8, 97#8, 108#8] : List Byte))) 80 (x_59, x_60) ∧
    b52 = x_59 ∧ e_53 = x_60
  ) ∧
  if e_53 ≠ 0 then (
    r = (.inl (([] : List Byte), ([] : List Byte), (fun _ => 0#8), false))
  ) else (
    if b52.length ≠ 80 then (
      r = (.inl (([] : List Byte), ([] : List Byte), (fun _ => 0#8), false))
    ) else (
      (0 ≤ 32 ∧ 32 ≤ b52.length) ∧
      (32 ≤ 64 ∧ 64 ≤ b52.length) ∧
      (64 ≤ 80 ∧ 80 ≤ b52.length) ∧
      (16 ≤ (80 - 64)) ∧
      r = (.inr ((seg b52 0 32), (seg b52 32 64), (lit (seg b52 64 80)), true))
    )
  )

def lethelaw05_tag (key1 : List Byte) (data2 : List Byte) (c3 : List Byte) (r : (List Byte)) : Prop :=
  (data2.length < 9223372036854775808) ∧
  (data2.length < 9223372036854775808) ∧
  ∃ x_13 : Nat → BitVec 8, kdf_Mac key1 ([data2, c3, ([0#8, 0#8, 0#8, 0#8, 0#8, (BitVec.ofNat 8 (data2.length / 65536)), (BitVec.ofNat 8 (data2.length / 256)), (BitVec.ofNat 8 data2.length)] : List Byte)] : List (List Byte)) x_13 ∧
  r = (([] : List Byte) ++ (dl 32 x_13))

def lethelaw05_rest (n_1 : Int) (m2 : Int) (r : Int) : Prop :=
  (m2 ≠ 0) ∧
  (-9223372036854775808 ≤ ((n_1.tmod m2) + m2) ∧ ((n_1.tmod m2) + m2) ≤ 9223372036854775807) ∧
  (m2 ≠ 0) ∧
  r = (((n_1.tmod m2) + m2).tmod m2)
end Go.Proofs.YthjkmhdgenmnoaaDoor
