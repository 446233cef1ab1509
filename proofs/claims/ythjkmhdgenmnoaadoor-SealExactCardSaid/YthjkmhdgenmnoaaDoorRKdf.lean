/-
 RELATIONS of the package's functions, printed by this session's own program (auto.py).
-/
import Derived.Test.YthjkmhdgenmnoaaDoorEc
import Derived.Test.YthjkmhdgenmnoaaDoorShaM
import Derived.Test.YthjkmhdgenmnoaaDoorRSha
namespace Go.Proofs.YthjkmhdgenmnoaaDoor
set_option linter.unusedSimpArgs false
set_option linter.unusedVariables false
set_option linter.unusedSectionVars false
open Go Go.LW
def kdf_padded_l0 (x_2 : BitVec 8) (s : (Nat × (Nat → BitVec 8))) (o47 : (Nat × (Nat → BitVec 8)) ⊕ (Nat → BitVec 8)) : Prop :=
 match s with
 | (t44, m45) =>
   if t44 < 64 then (
     o47 = .inl ((t44 + 1), (upd m45 t44 ((m45 t44) ^^^ x_2)))
   ) else (
     o47 = .inr m45
   )
def kdf_padded_l1 (x_2 : BitVec 8) (s : (Nat × (Nat → BitVec 8))) (o78 : (Nat × (Nat → BitVec 8)) ⊕ (Nat → BitVec 8)) : Prop :=
 match s with
 | (t75, m76) =>
   if t75 < 64 then (
     o78 = .inl ((t75 + 1), (upd m76 t75 ((m76 t75) ^^^ x_2)))
   ) else (
     o78 = .inr m76
   )
def kdf_padded (key1 : List Byte) (x_2 : BitVec 8) (r : (List Byte)) : Prop :=
 if 64 < key1.length then (
   ∃ x_23 : Nat → BitVec 8, sha_Sum ([key1] : List (List Byte)) x_23 ∧
   ∃ m46 : Nat → BitVec 8, Iter (kdf_padded_l0 x_2) (0, (spl (fun _ => 0#8) 0 32 (lit (dl 32 x_23)))) m46 ∧
   r = (dl 64 m46)
 ) else (
   ∃ m77 : Nat → BitVec 8, Iter (kdf_padded_l1 x_2) (0, (spl (fun _ => 0#8) 0 (min key1.length 64) (lit key1))) m77 ∧
   r = (dl 64 m77)
 )
def kdf_Mac_l0 (parts2 : List (List Byte)) (s : (Nat × (Nat → BitVec 32) × (Nat → BitVec 8) × Int)) (o65 : (Nat × (Nat → BitVec 32) × (Nat → BitVec 8) × Int) ⊕ ((Nat → BitVec 32) × (Nat → BitVec 8) × Int)) : Prop :=
 match s with
 | (t58, m59, m60, m61) =>
   if t58 < parts2.length then (
     (t58 < parts2.length) ∧
     ∃ x_76 : Nat → BitVec 32, ∃ x_77 : Nat → BitVec 8, ∃ x_78 : Int, sha_Hash_Write m59 m60 m61 (parts2.getD t58 []) (x_76, x_77, x_78) ∧
     ((t58 + 1) < 9223372036854775808) ∧
     o65 = .inl ((t58 + 1), x_76, x_77, x_78)
   ) else (
     o65 = .inr (m59, m60, m61)
   )
def kdf_Mac (key1 : List Byte) (parts2 : List (List Byte)) (r : (Nat → BitVec 8)) : Prop :=
 ∃ x_7 : Nat → BitVec 32, ∃ x_8 : Nat → BitVec 8, ∃ x_9 : Nat, sha_New (x_7, x_8, x_9) ∧
 ∃ x_14 : List Byte, kdf_padded key1 (54#8) x_14 ∧
 ∃ x_23 : Nat → BitVec 32, ∃ x_24 : Nat → BitVec 8, ∃ x_25 : Int, sha_Hash_Write x_7 x_8 ((x_9 : Nat) : Int) x_14 (x_23, x_24, x_25) ∧
 ∃ m62 : Nat → BitVec 32, ∃ m63 : Nat → BitVec 8, ∃ m64 : Int, Iter (kdf_Mac_l0 parts2) (0, x_23, x_24, x_25) (m62, m63, m64) ∧
 ∃ x_84 : Nat → BitVec 8, sha_Hash_Sum m62 m63 m64 x_84 ∧
 ∃ x_91 : List Byte, kdf_padded key1 (92#8) x_91 ∧
 ∃ x_101 : Nat → BitVec 8, sha_Sum ([x_91, (dl 32 x_84)] : List (List Byte)) x_101 ∧
 r = x_101
def kdf_Extract (salt1 : List Byte) (key2 : List Byte) (r : (Nat → BitVec 8)) : Prop :=
 ∃ x_9 : Nat → BitVec 8, kdf_Mac salt1 ([key2] : List (List Byte)) x_9 ∧
 r = x_9
def kdf_Expand_l0 (prk1 : List Byte) (info2 : List Byte) (n_3 : Int) (s : ((List Byte) × (List Byte) × Nat)) (o65 : ((List Byte) × (List Byte) × Nat) ⊕ (List Byte)) : Prop :=
 match s with
 | (out60, last61, k63) =>
   if ((out60.length : Nat) : Int) < n_3 then (
     ∃ x_78 : Nat → BitVec 8, kdf_Mac prk1 ([last61, info2, ([(BitVec.ofNat 8 k63)] : List Byte)] : List (List Byte)) x_78 ∧
     (out60.length + 32 ≤ 140737488355328) ∧
     ((k63 + 1) < 9223372036854775808) ∧
     o65 = .inl ((out60 ++ (dl 32 x_78)), (dl 32 x_78), (k63 + 1))
   ) else (
     o65 = .inr out60
   )
def kdf_Expand (prk1 : List Byte) (info2 : List Byte) (n_3 : Int) (r : ((List Byte) × Nat)) : Prop :=
 if n_3 < 0 then (
   r = (([] : List Byte), 4)
 ) else (
   if 8160 < n_3 then (
     r = (([] : List Byte), 30)
   ) else (
     (0 ≤ (n_3 + 32)) ∧
     (0 ≤ (n_3 + 32).toNat ∧ (n_3 + 32).toNat ≤ 281474976710656) ∧
     ∃ out64 : List Byte, Iter (kdf_Expand_l0 prk1 info2 n_3) ((List.replicate 0 0#8), ([] : List Byte), 1) out64 ∧
     (0 ≤ n_3) ∧
     (n_3.toNat ≤ out64.length) ∧
     r = ((seg out64 0 n_3.toNat), 0)
   )
 )
def kdf_Derive (salt1 : List Byte) (key2 : List Byte) (info3 : List Byte) (n_4 : Int) (r : ((List Byte) × Nat)) : Prop :=
 ∃ x_8 : Nat → BitVec 8, kdf_Extract salt1 key2 x_8 ∧
 ∃ x_14 : List Byte, ∃ x_15 : Nat, kdf_Expand (dl 32 x_8) info3 n_4 (x_14, x_15) ∧
 r = (x_14, x_15)
end Go.Proofs.YthjkmhdgenmnoaaDoor
