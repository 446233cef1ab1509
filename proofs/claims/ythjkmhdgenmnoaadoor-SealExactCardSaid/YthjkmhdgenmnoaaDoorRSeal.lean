/-
 RELATIONS of the package's functions, printed by this session's own program (auto.py).
-/
import Derived.Test.YthjkmhdgenmnoaaDoorEc
import Derived.Test.YthjkmhdgenmnoaaDoorShaM
import Derived.Test.YthjkmhdgenmnoaaDoorRAes
import Derived.Test.YthjkmhdgenmnoaaDoorRKdf
import Derived.Test.YthjkmhdgenmnoaaDoorRWire
namespace Go.Proofs.YthjkmhdgenmnoaaDoor
set_option linter.unusedSimpArgs false
set_option linter.unusedVariables false
set_option linter.unusedSectionVars false
open Go Go.LW
def seal_keys (key1 : Nat → BitVec 8) (r : ((List Byte) × (Nat → BitVec 8) × Nat) ⊕ ((List Byte) × (Nat → BitVec 8) × Nat) ⊕ ((Nat → BitVec 8) × (Nat → BitVec 8) × (Nat → BitVec 8) × (Nat → BitVec 8) × (List Byte) × (Nat → BitVec 8) × Nat)) : Prop :=
 ∃ e_52 : Nat, ∃ b53 : List Byte, (
   ∃ x_59 : List Byte, ∃ x_60 : Nat, kdf_Derive (List.replicate 32 0#8) (dl 32 key1) (dl 10 (lit ([108#8, 101#8, 116#8, 104#8, 101#8, 32#8, 115#8, 101#8, 97#8, 108#8] : List Byte))) 80 (x_59, x_60) ∧
   e_52 = x_60 ∧ b53 = x_59
 ) ∧
 if e_52 ≠ 0 then (
   r = (.inl (([] : List Byte), (fun _ => 0#8), e_52))
 ) else (
   (0 ≤ 32 ∧ 32 ≤ b53.length) ∧
   ((∃ x_118 : Nat, aes_New (seg b53 0 32) (.inl x_118) ∧
     if x_118 ≠ 0 then (
       r = (.inl (([] : List Byte), (fun _ => 0#8), x_118))
     ) else (
       (32 ≤ 64 ∧ 64 ≤ b53.length) ∧
       (64 ≤ b53.length ∧ b53.length ≤ b53.length) ∧
       (16 ≤ (b53.length - 64)) ∧
       r = (.inr (.inl ((seg b53 32 64), (lit (seg b53 64 b53.length)), 0)))
     )
   ) ∨ (∃ x_119 : Nat → BitVec 8, ∃ x_120 : Nat → BitVec 8, ∃ x_121 : Nat → BitVec 8, ∃ x_122 : Nat → BitVec 8, ∃ x_123 : Nat, aes_New (seg b53 0 32) (.inr (x_119, x_120, x_121, x_122, x_123)) ∧
     if x_123 ≠ 0 then (
       r = (.inl (([] : List Byte), (fun _ => 0#8), x_123))
     ) else (
       (32 ≤ 64 ∧ 64 ≤ b53.length) ∧
       (64 ≤ b53.length ∧ b53.length ≤ b53.length) ∧
       (16 ≤ (b53.length - 64)) ∧
       r = (.inr (.inr (x_119, x_120, x_121, x_122, (seg b53 32 64), (lit (seg b53 64 b53.length)), 0)))
     )
   ))
 )
def seal_tagged_l0 (data2 : List Byte) (s : ((List Byte) × Nat)) (o33 : ((List Byte) × Nat) ⊕ (List Byte)) : Prop :=
 match s with
 | (n_30, t31) =>
   if t31 < (List.replicate 8 0#8).length then (
     ((8 * t31) < 9223372036854775808) ∧
     (-9223372036854775808 ≤ (56 - (((8 * t31) : Nat) : Int)) ∧ (56 - (((8 * t31) : Nat) : Int)) ≤ 9223372036854775807) ∧
     (0 ≤ (56 - (((8 * t31) : Nat) : Int))) ∧
     (t31 < (List.replicate 8 0#8).length) ∧
     ((t31 + 1) < 9223372036854775808) ∧
     o33 = .inl ((n_30.set t31 (((BitVec.ofNat 64 data2.length) >>> ((56 - (((8 * t31) : Nat) : Int)).toNat)).setWidth 8)), (t31 + 1))
   ) else (
     o33 = .inr n_30
   )
def seal_tagged (key1 : List Byte) (data2 : List Byte) (c3 : List Byte) (r : (List Byte)) : Prop :=
 ∃ n_32 : List Byte, Iter (seal_tagged_l0 data2) ((List.replicate 8 0#8), 0) n_32 ∧
 ∃ x_51 : Nat → BitVec 8, kdf_Mac key1 ([data2, c3, n_32] : List (List Byte)) x_51 ∧
 r = (dl 32 x_51)
def seal_Seal (key1 : Nat → BitVec 8) (data2 : List Byte) (text3 : List Byte) (r : ((List Byte) × Nat)) : Prop :=
 if 512 < text3.length then (
   r = (([] : List Byte), 5)
 ) else (
   if 65535 < data2.length then (
     r = (([] : List Byte), 5)
   ) else (
     ((∃ x_23 : List Byte, ∃ x_24 : Nat → BitVec 8, ∃ x_25 : Nat, seal_keys key1 (.inl (x_23, x_24, x_25)) ∧
       if x_25 ≠ 0 then (
         r = (([] : List Byte), x_25)
       ) else (
         False
       )
     ) ∨ (∃ x_26 : List Byte, ∃ x_27 : Nat → BitVec 8, ∃ x_28 : Nat, seal_keys key1 (.inr (.inl (x_26, x_27, x_28))) ∧
       if x_28 ≠ 0 then (
         r = (([] : List Byte), x_28)
       ) else (
         False
       )
     ) ∨ (∃ x_29 : Nat → BitVec 8, ∃ x_30 : Nat → BitVec 8, ∃ x_31 : Nat → BitVec 8, ∃ x_32 : Nat → BitVec 8, ∃ x_33 : List Byte, ∃ x_34 : Nat → BitVec 8, ∃ x_35 : Nat, seal_keys key1 (.inr (.inr (x_29, x_30, x_31, x_32, x_33, x_34, x_35))) ∧
       if x_35 ≠ 0 then (
         r = (([] : List Byte), x_35)
       ) else (
         ∃ x_82 : List Byte, aes_Cipher_Stream x_29 x_30 x_31 x_32 x_34 text3 x_82 ∧
         ∃ x_91 : List Byte, seal_tagged x_33 data2 x_82 x_91 ∧
         ∃ x_101 : List Byte, wire_Join ([x_82, x_91] : List (List Byte)) x_101 ∧
         r = (x_101, 0)
       )
     ))
   )
 )
def seal_Open (key1 : Nat → BitVec 8) (data2 : List Byte) (sealed3 : List Byte) (r : ((List Byte) × Nat)) : Prop :=
 (-9223372036854775808 ≤ (((sealed3.length : Nat) : Int) - 32) ∧ (((sealed3.length : Nat) : Int) - 32) ≤ 9223372036854775807) ∧
 if (((sealed3.length : Nat) : Int) - 32) < 0 then (
   r = (([] : List Byte), 10)
 ) else (
   if 512 < (((sealed3.length : Nat) : Int) - 32) then (
     r = (([] : List Byte), 5)
   ) else (
     if 65535 < data2.length then (
       r = (([] : List Byte), 5)
     ) else (
       ((∃ x_33 : List Byte, ∃ x_34 : Nat → BitVec 8, ∃ x_35 : Nat, seal_keys key1 (.inl (x_33, x_34, x_35)) ∧
         if x_35 ≠ 0 then (
           r = (([] : List Byte), x_35)
         ) else (
           (0 ≤ (((sealed3.length : Nat) : Int) - 32)) ∧
           ((((sealed3.length : Nat) : Int) - 32).toNat ≤ sealed3.length ∧ sealed3.length ≤ sealed3.length) ∧
           (0 ≤ (((sealed3.length : Nat) : Int) - 32)) ∧
           (0 ≤ (((sealed3.length : Nat) : Int) - 32).toNat ∧ (((sealed3.length : Nat) : Int) - 32).toNat ≤ sealed3.length) ∧
           ∃ x_70 : List Byte, seal_tagged x_33 data2 (seg sealed3 0 ((((sealed3.length : Nat) : Int) - 32).toNat)) x_70 ∧
           ∃ x_78 : Bool, wire_Same (seg sealed3 ((((sealed3.length : Nat) : Int) - 32).toNat) sealed3.length) x_70 x_78 ∧
           if x_78 = true then (
             (0 ≤ (((sealed3.length : Nat) : Int) - 32)) ∧
             (0 ≤ (((sealed3.length : Nat) : Int) - 32).toNat ∧ (((sealed3.length : Nat) : Int) - 32).toNat ≤ sealed3.length) ∧
             False
           ) else (
             r = (([] : List Byte), 50)
           )
         )
       ) ∨ (∃ x_36 : List Byte, ∃ x_37 : Nat → BitVec 8, ∃ x_38 : Nat, seal_keys key1 (.inr (.inl (x_36, x_37, x_38))) ∧
         if x_38 ≠ 0 then (
           r = (([] : List Byte), x_38)
         ) else (
           (0 ≤ (((sealed3.length : Nat) : Int) - 32)) ∧
           ((((sealed3.length : Nat) : Int) - 32).toNat ≤ sealed3.length ∧ sealed3.length ≤ sealed3.length) ∧
           (0 ≤ (((sealed3.length : Nat) : Int) - 32)) ∧
           (0 ≤ (((sealed3.length : Nat) : Int) - 32).toNat ∧ (((sealed3.length : Nat) : Int) - 32).toNat ≤ sealed3.length) ∧
           ∃ x_112 : List Byte, seal_tagged x_36 data2 (seg sealed3 0 ((((sealed3.length : Nat) : Int) - 32).toNat)) x_112 ∧
           ∃ x_120 : Bool, wire_Same (seg sealed3 ((((sealed3.length : Nat) : Int) - 32).toNat) sealed3.length) x_112 x_120 ∧
           if x_120 = true then (
             (0 ≤ (((sealed3.length : Nat) : Int) - 32)) ∧
             (0 ≤ (((sealed3.length : Nat) : Int) - 32).toNat ∧ (((sealed3.length : Nat) : Int) - 32).toNat ≤ sealed3.length) ∧
             False
           ) else (
             r = (([] : List Byte), 50)
           )
         )
       ) ∨ (∃ x_39 : Nat → BitVec 8, ∃ x_40 : Nat → BitVec 8, ∃ x_41 : Nat → BitVec 8, ∃ x_42 : Nat → BitVec 8, ∃ x_43 : List Byte, ∃ x_44 : Nat → BitVec 8, ∃ x_45 : Nat, seal_keys key1 (.inr (.inr (x_39, x_40, x_41, x_42, x_43, x_44, x_45))) ∧
         if x_45 ≠ 0 then (
           r = (([] : List Byte), x_45)
         ) else (
           (0 ≤ (((sealed3.length : Nat) : Int) - 32)) ∧
           ((((sealed3.length : Nat) : Int) - 32).toNat ≤ sealed3.length ∧ sealed3.length ≤ sealed3.length) ∧
           (0 ≤ (((sealed3.length : Nat) : Int) - 32)) ∧
           (0 ≤ (((sealed3.length : Nat) : Int) - 32).toNat ∧ (((sealed3.length : Nat) : Int) - 32).toNat ≤ sealed3.length) ∧
           ∃ x_155 : List Byte, seal_tagged x_43 data2 (seg sealed3 0 ((((sealed3.length : Nat) : Int) - 32).toNat)) x_155 ∧
           ∃ x_163 : Bool, wire_Same (seg sealed3 ((((sealed3.length : Nat) : Int) - 32).toNat) sealed3.length) x_155 x_163 ∧
           if x_163 = true then (
             (0 ≤ (((sealed3.length : Nat) : Int) - 32)) ∧
             (0 ≤ (((sealed3.length : Nat) : Int) - 32).toNat ∧ (((sealed3.length : Nat) : Int) - 32).toNat ≤ sealed3.length) ∧
             ∃ x_173 : List Byte, aes_Cipher_Stream x_39 x_40 x_41 x_42 x_44 (seg sealed3 0 ((((sealed3.length : Nat) : Int) - 32).toNat)) x_173 ∧
             r = (x_173, 0)
           ) else (
             r = (([] : List Byte), 50)
           )
         )
       ))
     )
   )
 )
def seal_Length (n_1 : Int) (r : Int) : Prop :=
 if n_1 < 0 then (
   r = 0
 ) else (
   if 512 < n_1 then (
     r = 0
   ) else (
     r = (n_1 + 32)
   )
 )
end Go.Proofs.YthjkmhdgenmnoaaDoor
