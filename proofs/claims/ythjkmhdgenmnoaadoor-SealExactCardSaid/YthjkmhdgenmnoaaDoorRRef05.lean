/-
 RELATIONS of the package's functions, printed by this session's own program (auto.py).
-/
import Derived.Test.YthjkmhdgenmnoaaDoorEc
import Derived.Test.YthjkmhdgenmnoaaDoorShaM
import Derived.Test.YthjkmhdgenmnoaaDoorRRef03
import Derived.Test.YthjkmhdgenmnoaaDoorRRef04
namespace Go.Proofs.YthjkmhdgenmnoaaDoor
set_option linter.unusedSimpArgs false
set_option linter.unusedVariables false
set_option linter.unusedSectionVars false
open Go Go.LW
def letheref05_Three_l0 (b69 : List Byte) (s : (Nat × (Nat → BitVec 8))) (o163 : (Nat × (Nat → BitVec 8)) ⊕ (Nat → BitVec 8)) : Prop :=
 match s with
 | (i_160, m161) =>
   if i_160 < 16 then (
     ((64 + i_160) < b69.length) ∧
     o163 = .inl ((i_160 + 1), (upd m161 i_160 (lit b69 (64 + i_160))))
   ) else (
     o163 = .inr m161
   )
def letheref05_Three (key1 : Nat → BitVec 8) (r : ((List Byte) × (List Byte) × (Nat → BitVec 8))) : Prop :=
 ∃ b69 : List Byte, (
   ((∃ x_82 : List Byte, ∃ x_83 : Nat, letheref03_Derive (List.replicate 32 0#8) (dl 32 key1) (dl 10 (lit ([108#8, 101#8, 116#8, 104#8, 101#8, 32#8, 115#8, 101#8, 97#8, 108#8] : List Byte))) 80 (.inl (x_82, x_83)) ∧
     b69 = x_82
   ) ∨ (∃ x_84 : List Byte, ∃ x_85 : Nat, letheref03_Derive (List.replicate 32 0#8) (dl 32 key1) (dl 10 (lit ([108#8, 101#8, 116#8, 104#8, 101#8, 32#8, 115#8, 101#8, 97#8, 108#8] : List Byte))) 80 (.inr (x_84, x_85)) ∧
     b69 = x_84
   ))
 ) ∧
 ∃ m162 : Nat → BitVec 8, Iter (letheref05_Three_l0 b69) (0, (fun _ => 0#8)) m162 ∧
 (0 ≤ 32 ∧ 32 ≤ b69.length) ∧
 (32 ≤ 64 ∧ 64 ≤ b69.length) ∧
 r = ((seg b69 0 32), (seg b69 32 64), m162)
def letheref05_Tag_l0  (s : ((List Byte) × Nat × Int)) (o46 : ((List Byte) × Nat × Int) ⊕ (List Byte)) : Prop :=
 match s with
 | (long42, n_43, i_44) =>
   if 0 ≤ i_44 then (
     (0 ≤ i_44 ∧ i_44 < (List.replicate 8 0#8).length) ∧
     (n_43 < 9223372036854775808) ∧
     (-9223372036854775808 ≤ (i_44 - 1) ∧ (i_44 - 1) ≤ 9223372036854775807) ∧
     o46 = .inl ((long42.set i_44.toNat (BitVec.ofNat 8 (n_43 % 256))), (n_43 / 256), (i_44 - 1))
   ) else (
     o46 = .inr long42
   )
def letheref05_Tag (tagKey1 : List Byte) (data2 : List Byte) (c3 : List Byte) (r : (List Byte)) : Prop :=
 ∃ long45 : List Byte, Iter (letheref05_Tag_l0) ((List.replicate 8 0#8), data2.length, 7) long45 ∧
 ∃ x_62 : List Byte, letheref03_Joined ([data2, c3, long45] : List (List Byte)) x_62 ∧
 ∃ x_70 : Nat → BitVec 8, letheref03_Mac tagKey1 x_62 x_70 ∧
 r = (dl 32 x_70)
def letheref05_Seal (key1 : Nat → BitVec 8) (data2 : List Byte) (text3 : List Byte) (r : ((List Byte) × Nat)) : Prop :=
 if 512 < text3.length then (
   r = (([] : List Byte), 5)
 ) else (
   if 65535 < data2.length then (
     r = (([] : List Byte), 5)
   ) else (
     ∃ x_23 : List Byte, ∃ x_24 : List Byte, ∃ x_25 : Nat → BitVec 8, letheref05_Three key1 (x_23, x_24, x_25) ∧
     ((letheref04_New x_23 (.inl ()) ∧
       False
     ) ∨ (∃ x_39 : List (Nat → BitVec 8), ∃ x_40 : Nat → BitVec 8, ∃ x_41 : Nat → BitVec 8, letheref04_New x_23 (.inr (x_39, x_40, x_41)) ∧
       ∃ x_52 : List Byte, letheref04_Cipher_Hide x_39 x_40 x_41 x_25 text3 x_52 ∧
       ∃ x_61 : List Byte, letheref05_Tag x_24 data2 x_52 x_61 ∧
       ∃ x_71 : List Byte, letheref03_Joined ([x_52, x_61] : List (List Byte)) x_71 ∧
       r = (x_71, 0)
     ))
   )
 )
def letheref05_Open (key1 : Nat → BitVec 8) (data2 : List Byte) (sealed3 : List Byte) (r : ((List Byte) × Nat)) : Prop :=
 (-9223372036854775808 ≤ (((sealed3.length : Nat) : Int) - 32) ∧ (((sealed3.length : Nat) : Int) - 32) ≤ 9223372036854775807) ∧
 if (((sealed3.length : Nat) : Int) - 32) < 0 then (
   r = (([] : List Byte), 10)
 ) else (
   if 512 < (((sealed3.length : Nat) : Int) - 32) then (
     r = (([] : List Byte), 5)
   ) else (
     if 65535 < data2.length then (
       r = (([] : List Byte), 5)
     ) else (
       ∃ x_31 : List Byte, ∃ x_32 : List Byte, ∃ x_33 : Nat → BitVec 8, letheref05_Three key1 (x_31, x_32, x_33) ∧
       (0 ≤ (((sealed3.length : Nat) : Int) - 32)) ∧
       (0 ≤ (((sealed3.length : Nat) : Int) - 32).toNat ∧ (((sealed3.length : Nat) : Int) - 32).toNat ≤ sealed3.length) ∧
       (0 ≤ (((sealed3.length : Nat) : Int) - 32)) ∧
       ((((sealed3.length : Nat) : Int) - 32).toNat ≤ sealed3.length ∧ sealed3.length ≤ sealed3.length) ∧
       ∃ x_55 : List Byte, letheref05_Tag x_32 data2 (seg sealed3 0 ((((sealed3.length : Nat) : Int) - 32).toNat)) x_55 ∧
       if x_55 = (seg sealed3 ((((sealed3.length : Nat) : Int) - 32).toNat) sealed3.length) then (
         (0 ≤ (((sealed3.length : Nat) : Int) - 32)) ∧
         (0 ≤ (((sealed3.length : Nat) : Int) - 32).toNat ∧ (((sealed3.length : Nat) : Int) - 32).toNat ≤ sealed3.length) ∧
         ((letheref04_New x_31 (.inl ()) ∧
           False
         ) ∨ (∃ x_70 : List (Nat → BitVec 8), ∃ x_71 : Nat → BitVec 8, ∃ x_72 : Nat → BitVec 8, letheref04_New x_31 (.inr (x_70, x_71, x_72)) ∧
           ∃ x_83 : List Byte, letheref04_Cipher_Hide x_70 x_71 x_72 x_33 (seg sealed3 0 ((((sealed3.length : Nat) : Int) - 32).toNat)) x_83 ∧
           r = (x_83, 0)
         ))
       ) else (
         r = (([] : List Byte), 50)
       )
     )
   )
 )
def letheref05_Length (n_1 : Int) (r : Int) : Prop :=
 if n_1 < 0 then (
   r = 0
 ) else (
   if 512 < n_1 then (
     r = 0
   ) else (
     r = (n_1 + 32)
   )
 )
end Go.Proofs.YthjkmhdgenmnoaaDoor
