/-
 RELATIONS of the package's functions, printed by this session's own program (auto.py).
-/
import Derived.Test.YthjkmhdgenmnoaaDoorEc
import Derived.Test.YthjkmhdgenmnoaaDoorShaM
import Derived.Test.YthjkmhdgenmnoaaDoorRRef02
namespace Go.Proofs.YthjkmhdgenmnoaaDoor
set_option linter.unusedSimpArgs false
set_option linter.unusedVariables false
set_option linter.unusedSectionVars false
open Go Go.LW
def letheref03_turned_l1 (x_2 : Int) (k187 : Nat) (s : ((List Byte) × (List Byte) × Nat × Nat)) (o232 : ((List Byte) × (List Byte) × Nat × Nat) ⊕ ((List Byte) × (List Byte) × Nat)) : Prop :=
 match s with
 | (key225, out226, n_227, bit228) =>
   if bit228 < 256 then (
     (0 < bit228) ∧
     (k187 < 9223372036854775808) ∧
     (((bit228 : Nat) : Int) ≠ 0) ∧
     (-9223372036854775808 ≤ (x_2.tdiv ((bit228 : Nat) : Int)) ∧ (x_2.tdiv ((bit228 : Nat) : Int)) ≤ 9223372036854775807) ∧
     if ((((k187 / bit228) % 2) : Nat) : Int) ≠ ((x_2.tdiv ((bit228 : Nat) : Int)).tmod 2) then (
       ((n_227 + bit228) < 9223372036854775808) ∧
       o232 = .inl (key225, out226, (n_227 + bit228), (bit228 * 2))
     ) else (
       o232 = .inl (key225, out226, n_227, (bit228 * 2))
     )
   ) else (
     o232 = .inr (key225, out226, n_227)
   )
def letheref03_turned_l0 (x_2 : Int) (s : ((List Byte) × (List Byte) × Nat)) (o173 : ((List Byte) × (List Byte) × Nat) ⊕ (List Byte)) : Prop :=
 match s with
 | (key169, out170, i_171) =>
   if i_171 < 64 then (
     ∃ key185 : List Byte, ∃ out186 : List Byte, ∃ k187 : Nat, (
       if i_171 < 32 then (
         (i_171 < 32) ∧
         key185 = key169 ∧ out186 = out170 ∧ k187 = (lit key169 i_171).toNat
       ) else (
         key185 = key169 ∧ out186 = out170 ∧ k187 = 0
       )
     ) ∧
     ∃ key229 : List Byte, ∃ out230 : List Byte, ∃ n_231 : Nat, Iter (letheref03_turned_l1 x_2 k187) (key185, out186, 0, 1) (key229, out230, n_231) ∧
     (i_171 < (List.replicate 64 0#8).length) ∧
     o173 = .inl (key229, (out230.set i_171 (BitVec.ofNat 8 n_231)), (i_171 + 1))
   ) else (
     o173 = .inr out170
   )
def letheref03_turned_l3 (x_2 : Int) (k413 : Nat) (s : ((List Byte) × Nat × Nat)) (o454 : ((List Byte) × Nat × Nat) ⊕ ((List Byte) × Nat)) : Prop :=
 match s with
 | (out449, n_450, bit451) =>
   if bit451 < 256 then (
     (0 < bit451) ∧
     (k413 < 9223372036854775808) ∧
     (((bit451 : Nat) : Int) ≠ 0) ∧
     (-9223372036854775808 ≤ (x_2.tdiv ((bit451 : Nat) : Int)) ∧ (x_2.tdiv ((bit451 : Nat) : Int)) ≤ 9223372036854775807) ∧
     if ((((k413 / bit451) % 2) : Nat) : Int) ≠ ((x_2.tdiv ((bit451 : Nat) : Int)).tmod 2) then (
       ((n_450 + bit451) < 9223372036854775808) ∧
       o454 = .inl (out449, (n_450 + bit451), (bit451 * 2))
     ) else (
       o454 = .inl (out449, n_450, (bit451 * 2))
     )
   ) else (
     o454 = .inr (out449, n_450)
   )
def letheref03_turned_l2 (key1 : List Byte) (x_2 : Int) (s : ((List Byte) × Nat)) (o400 : ((List Byte) × Nat) ⊕ (List Byte)) : Prop :=
 match s with
 | (out397, i_398) =>
   if i_398 < 64 then (
     ∃ out412 : List Byte, ∃ k413 : Nat, (
       if i_398 < key1.length then (
         (i_398 < key1.length) ∧
         out412 = out397 ∧ k413 = (lit key1 i_398).toNat
       ) else (
         out412 = out397 ∧ k413 = 0
       )
     ) ∧
     ∃ out452 : List Byte, ∃ n_453 : Nat, Iter (letheref03_turned_l3 x_2 k413) (out412, 0, 1) (out452, n_453) ∧
     (i_398 < (List.replicate 64 0#8).length) ∧
     o400 = .inl ((out452.set i_398 (BitVec.ofNat 8 n_453)), (i_398 + 1))
   ) else (
     o400 = .inr out397
   )
def letheref03_turned (key1 : List Byte) (x_2 : Int) (r : (List Byte)) : Prop :=
 if 64 < key1.length then (
   ∃ x_19 : Nat → BitVec 8, letheref02_Sum key1 x_19 ∧
   ∃ out172 : List Byte, Iter (letheref03_turned_l0 x_2) ((dl 32 x_19), (List.replicate 64 0#8), 0) out172 ∧
   r = out172
 ) else (
   ∃ out399 : List Byte, Iter (letheref03_turned_l2 key1 x_2) ((List.replicate 64 0#8), 0) out399 ∧
   r = out399
 )
def letheref03_Joined_l0 (parts1 : List (List Byte)) (s : ((List Byte) × Nat)) (o31 : ((List Byte) × Nat) ⊕ (List Byte)) : Prop :=
 match s with
 | (out27, i_29) =>
   if i_29 < parts1.length then (
     (i_29 < parts1.length) ∧
     (out27.length + (parts1.getD i_29 []).length ≤ 140737488355328) ∧
     ((i_29 + 1) < 9223372036854775808) ∧
     o31 = .inl ((out27 ++ (parts1.getD i_29 [])), (i_29 + 1))
   ) else (
     o31 = .inr out27
   )
def letheref03_Joined (parts1 : List (List Byte)) (r : (List Byte)) : Prop :=
 ∃ out30 : List Byte, Iter (letheref03_Joined_l0 parts1) (([] : List Byte), 0) out30 ∧
 r = out30
def letheref03_Mac (key1 : List Byte) (text2 : List Byte) (r : (Nat → BitVec 8)) : Prop :=
 ∃ x_7 : List Byte, letheref03_turned key1 54 x_7 ∧
 ∃ x_17 : List Byte, letheref03_Joined ([x_7, text2] : List (List Byte)) x_17 ∧
 ∃ x_25 : Nat → BitVec 8, letheref02_Sum x_17 x_25 ∧
 ∃ x_32 : List Byte, letheref03_turned key1 92 x_32 ∧
 ∃ x_42 : List Byte, letheref03_Joined ([x_32, (dl 32 x_25)] : List (List Byte)) x_42 ∧
 ∃ x_50 : Nat → BitVec 8, letheref02_Sum x_42 x_50 ∧
 r = x_50
def letheref03_Extract (salt1 : List Byte) (key2 : List Byte) (r : (Nat → BitVec 8)) : Prop :=
 ∃ x_7 : Nat → BitVec 8, letheref03_Mac salt1 key2 x_7 ∧
 r = x_7
def letheref03_Expand_l0 (prk1 : List Byte) (info2 : List Byte) (n_3 : Int) (s : ((List Byte) × (List Byte) × Nat)) (o79 : ((List Byte) × (List Byte) × Nat) ⊕ (List Byte)) : Prop :=
 match s with
 | (out73, t75, i_77) =>
   if ((out73.length : Nat) : Int) < n_3 then (
     ∃ x_93 : List Byte, letheref03_Joined ([t75, info2, ([(BitVec.ofNat 8 i_77)] : List Byte)] : List (List Byte)) x_93 ∧
     ∃ x_101 : Nat → BitVec 8, letheref03_Mac prk1 x_93 x_101 ∧
     (out73.length + 32 ≤ 140737488355328) ∧
     ((i_77 + 1) < 9223372036854775808) ∧
     o79 = .inl ((out73 ++ (dl 32 x_101)), (dl 32 x_101), (i_77 + 1))
   ) else (
     o79 = .inr out73
   )
def letheref03_Expand (prk1 : List Byte) (info2 : List Byte) (n_3 : Int) (r : ((List Byte) × Nat) ⊕ ((List Byte) × Nat)) : Prop :=
 if n_3 < 0 then (
   r = (.inl (([] : List Byte), 4))
 ) else (
   if 8160 < n_3 then (
     r = (.inl (([] : List Byte), 30))
   ) else (
     ∃ out78 : List Byte, Iter (letheref03_Expand_l0 prk1 info2 n_3) (([] : List Byte), ([] : List Byte), 1) out78 ∧
     (0 ≤ n_3) ∧
     (0 ≤ n_3.toNat ∧ n_3.toNat ≤ out78.length) ∧
     r = (.inr ((seg out78 0 n_3.toNat), 0))
   )
 )
def letheref03_Derive (salt1 : List Byte) (key2 : List Byte) (info3 : List Byte) (n_4 : Int) (r : ((List Byte) × Nat) ⊕ ((List Byte) × Nat)) : Prop :=
 ∃ x_8 : Nat → BitVec 8, letheref03_Extract salt1 key2 x_8 ∧
 ((∃ x_14 : List Byte, ∃ x_15 : Nat, letheref03_Expand (dl 32 x_8) info3 n_4 (.inl (x_14, x_15)) ∧
   r = (.inl (x_14, x_15))
 ) ∨ (∃ x_16 : List Byte, ∃ x_17 : Nat, letheref03_Expand (dl 32 x_8) info3 n_4 (.inr (x_16, x_17)) ∧
   r = (.inr (x_16, x_17))
 ))
end Go.Proofs.YthjkmhdgenmnoaaDoor
