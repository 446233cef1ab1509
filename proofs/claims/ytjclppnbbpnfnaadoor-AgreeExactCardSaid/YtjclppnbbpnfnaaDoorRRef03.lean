/-
 RELATIONS of the package's functions, printed by this session's own program (auto.py).
-/
import Derived.Test.YtjclppnbbpnfnaaDoorEb
import Derived.Test.YtjclppnbbpnfnaaDoorFldT
import Derived.Test.YtjclppnbbpnfnaaDoorShaM
import Derived.Test.YtjclppnbbpnfnaaDoorRRef02
namespace Go.Proofs.YtjclppnbbpnfnaaDoor
set_option linter.unusedSimpArgs false
set_option linter.unusedVariables false
set_option linter.unusedSectionVars false
open Go Go.LW
def letheref03_Joined_l0 (parts1 : List (List Byte)) (s : ((List Byte) × Nat)) (o31 : ((List Byte) × Nat) ⊕ (List Byte)) : Prop :=
 match s with
 | (out27, i_29) =>
   if i_29 < parts1.length then (
     (i_29 < parts1.length) ∧
     (out27.length + (parts1.getD i_29 []).length ≤ 140737488355328) ∧
     ((i_29 + 1) < 9223372036854775808) ∧
     o31 = .inl ((out27 ++ (parts1.getD i_29 [])), (i_29 + 1))
   ) else (
     o31 = .inr out27
   )
def letheref03_Joined (parts1 : List (List Byte)) (r : (List Byte)) : Prop :=
 ∃ out30 : List Byte, Iter (letheref03_Joined_l0 parts1) (([] : List Byte), 0) out30 ∧
 r = out30
def letheref03_turned_l1 (x_2 : Int) (k200 : Nat) (s : ((List Byte) × (List Byte) × Nat × Nat)) (o246 : ((List Byte) × (List Byte) × Nat × Nat) ⊕ ((List Byte) × (List Byte) × Nat)) : Prop :=
 match s with
 | (key239, out240, n_241, bit242) =>
   if bit242 < 256 then (
     (0 < bit242) ∧
     (k200 < 9223372036854775808) ∧
     (((bit242 : Nat) : Int) ≠ 0) ∧
     (-9223372036854775808 ≤ (x_2.tdiv ((bit242 : Nat) : Int)) ∧ (x_2.tdiv ((bit242 : Nat) : Int)) ≤ 9223372036854775807) ∧
     if ((((k200 / bit242) % 2) : Nat) : Int) ≠ ((x_2.tdiv ((bit242 : Nat) : Int)).tmod 2) then (
       ((n_241 + bit242) < 9223372036854775808) ∧
       o246 = .inl (key239, out240, (n_241 + bit242), (bit242 * 2))
     ) else (
       o246 = .inl (key239, out240, n_241, (bit242 * 2))
     )
   ) else (
     o246 = .inr (key239, out240, n_241)
   )
def letheref03_turned_l0 (x_2 : Int) (s : ((List Byte) × (List Byte) × Nat)) (o186 : ((List Byte) × (List Byte) × Nat) ⊕ (List Byte)) : Prop :=
 match s with
 | (key182, out183, i_184) =>
   if i_184 < 64 then (
     ∃ key198 : List Byte, ∃ out199 : List Byte, ∃ k200 : Nat, (
       if i_184 < 32 then (
         (i_184 < 32) ∧
         key198 = key182 ∧ out199 = out183 ∧ k200 = (lit key182 i_184).toNat
       ) else (
         key198 = key182 ∧ out199 = out183 ∧ k200 = 0
       )
     ) ∧
     ∃ key243 : List Byte, ∃ out244 : List Byte, ∃ n_245 : Nat, Iter (letheref03_turned_l1 x_2 k200) (key198, out199, 0, 1) (key243, out244, n_245) ∧
     (i_184 < (List.replicate 64 0#8).length) ∧
     o186 = .inl (key243, (out244.set i_184 (BitVec.ofNat 8 n_245)), (i_184 + 1))
   ) else (
     o186 = .inr out183
   )
def letheref03_turned_l3 (x_2 : Int) (k430 : Nat) (s : ((List Byte) × Nat × Nat)) (o472 : ((List Byte) × Nat × Nat) ⊕ ((List Byte) × Nat)) : Prop :=
 match s with
 | (out467, n_468, bit469) =>
   if bit469 < 256 then (
     (0 < bit469) ∧
     (k430 < 9223372036854775808) ∧
     (((bit469 : Nat) : Int) ≠ 0) ∧
     (-9223372036854775808 ≤ (x_2.tdiv ((bit469 : Nat) : Int)) ∧ (x_2.tdiv ((bit469 : Nat) : Int)) ≤ 9223372036854775807) ∧
     if ((((k430 / bit469) % 2) : Nat) : Int) ≠ ((x_2.tdiv ((bit469 : Nat) : Int)).tmod 2) then (
       ((n_468 + bit469) < 9223372036854775808) ∧
       o472 = .inl (out467, (n_468 + bit469), (bit469 * 2))
     ) else (
       o472 = .inl (out467, n_468, (bit469 * 2))
     )
   ) else (
     o472 = .inr (out467, n_468)
   )
def letheref03_turned_l2 (key1 : List Byte) (x_2 : Int) (s : ((List Byte) × Nat)) (o417 : ((List Byte) × Nat) ⊕ (List Byte)) : Prop :=
 match s with
 | (out414, i_415) =>
   if i_415 < 64 then (
     ∃ out429 : List Byte, ∃ k430 : Nat, (
       if i_415 < key1.length then (
         (i_415 < key1.length) ∧
         out429 = out414 ∧ k430 = (lit key1 i_415).toNat
       ) else (
         out429 = out414 ∧ k430 = 0
       )
     ) ∧
     ∃ out470 : List Byte, ∃ n_471 : Nat, Iter (letheref03_turned_l3 x_2 k430) (out429, 0, 1) (out470, n_471) ∧
     (i_415 < (List.replicate 64 0#8).length) ∧
     o417 = .inl ((out470.set i_415 (BitVec.ofNat 8 n_471)), (i_415 + 1))
   ) else (
     o417 = .inr out414
   )
def letheref03_turned (key1 : List Byte) (x_2 : Int) (r : (List Byte)) : Prop :=
 if 64 < key1.length then (
   ∃ x_19 : Nat → BitVec 8, letheref02_Sum key1 x_19 ∧
   ∃ out185 : List Byte, Iter (letheref03_turned_l0 x_2) ((dl 32 x_19), (List.replicate 64 0#8), 0) out185 ∧
   r = out185
 ) else (
   ∃ out416 : List Byte, Iter (letheref03_turned_l2 key1 x_2) ((List.replicate 64 0#8), 0) out416 ∧
   r = out416
 )
def letheref03_Mac (key1 : List Byte) (text2 : List Byte) (r : (Nat → BitVec 8)) : Prop :=
 ∃ x_7 : List Byte, letheref03_turned key1 54 x_7 ∧
 ∃ x_17 : List Byte, letheref03_Joined ([x_7, text2] : List (List Byte)) x_17 ∧
 ∃ x_25 : Nat → BitVec 8, letheref02_Sum x_17 x_25 ∧
 ∃ x_32 : List Byte, letheref03_turned key1 92 x_32 ∧
 ∃ x_42 : List Byte, letheref03_Joined ([x_32, (dl 32 x_25)] : List (List Byte)) x_42 ∧
 ∃ x_50 : Nat → BitVec 8, letheref02_Sum x_42 x_50 ∧
 r = x_50
def letheref03_Extract (salt1 : List Byte) (key2 : List Byte) (r : (Nat → BitVec 8)) : Prop :=
 ∃ x_7 : Nat → BitVec 8, letheref03_Mac salt1 key2 x_7 ∧
 r = x_7
def letheref03_Expand_l0 (prk1 : List Byte) (info2 : List Byte) (n_3 : Int) (s : ((List Byte) × (List Byte) × Nat)) (o79 : ((List Byte) × (List Byte) × Nat) ⊕ (List Byte)) : Prop :=
 match s with
 | (out73, t75, i_77) =>
   if ((out73.length : Nat) : Int) < n_3 then (
     ∃ x_93 : List Byte, letheref03_Joined ([t75, info2, ([(BitVec.ofNat 8 i_77)] : List Byte)] : List (List Byte)) x_93 ∧
     ∃ x_101 : Nat → BitVec 8, letheref03_Mac prk1 x_93 x_101 ∧
     (out73.length + 32 ≤ 140737488355328) ∧
     ((i_77 + 1) < 9223372036854775808) ∧
     o79 = .inl ((out73 ++ (dl 32 x_101)), (dl 32 x_101), (i_77 + 1))
   ) else (
     o79 = .inr out73
   )
def letheref03_Expand (prk1 : List Byte) (info2 : List Byte) (n_3 : Int) (r : ((List Byte) × Nat) ⊕ ((List Byte) × Nat)) : Prop :=
 if n_3 < 0 then (
   r = (.inl (([] : List Byte), 4))
 ) else (
   if 8160 < n_3 then (
     r = (.inl (([] : List Byte), 30))
   ) else (
     ∃ out78 : List Byte, Iter (letheref03_Expand_l0 prk1 info2 n_3) (([] : List Byte), ([] : List Byte), 1) out78 ∧
     (0 ≤ n_3) ∧
     (0 ≤ n_3.toNat ∧ n_3.toNat ≤ out78.length) ∧
     r = (.inr ((seg out78 0 n_3.toNat), 0))
   )
 )
def letheref03_Derive (salt1 : List Byte) (key2 : List Byte) (info3 : List Byte) (n_4 : Int) (r : ((List Byte) × Nat) ⊕ ((List Byte) × Nat)) : Prop :=
 ∃ x_8 : Nat → BitVec 8, letheref03_Extract salt1 key2 x_8 ∧
 ((∃ x_14 : List Byte, ∃ x_15 : Nat, letheref03_Expand (dl 32 x_8) info3 n_4 (.inl (x_14, x_15)) ∧
   r = (.inl (x_14, x_15))
 ) ∨ (∃ x_16 : List Byte, ∃ x_17 : Nat, letheref03_Expand (dl 32 x_8) info3 n_4 (.inr (x_16, x_17)) ∧
   r = (.inr (x_16, x_17))
 ))
end Go.Proofs.YtjclppnbbpnfnaaDoor
