/-
 RELATIONS of the package's functions, printed by this session's own program (auto.py).
-/
import Derived.Test.YtjclppnbbpnfnaaDoorEb
import Derived.Test.YtjclppnbbpnfnaaDoorFldT
import Derived.Test.YtjclppnbbpnfnaaDoorShaM
import Derived.Test.YtjclppnbbpnfnaaDoorRRef03
import Derived.Test.YtjclppnbbpnfnaaDoorRRef07
namespace Go.Proofs.YtjclppnbbpnfnaaDoor
set_option linter.unusedSimpArgs false
set_option linter.unusedVariables false
set_option linter.unusedSectionVars false
open Go Go.LW
def letheref17_Bind_l0 (a1 : Nat → BitVec 8) (b2 : Nat → BitVec 8) (s : (Nat × (Nat → BitVec 8))) (o30 : (Nat × (Nat → BitVec 8)) ⊕ (Nat → BitVec 8)) : Prop :=
 match s with
 | (i_27, m28) =>
   if i_27 < 32 then (
     o30 = .inl ((i_27 + 1), (upd (upd m28 i_27 (a1 i_27)) (32 + i_27) (b2 i_27)))
   ) else (
     o30 = .inr m28
   )
def letheref17_Bind (a1 : Nat → BitVec 8) (b2 : Nat → BitVec 8) (r : (Nat → BitVec 8)) : Prop :=
 ∃ m29 : Nat → BitVec 8, Iter (letheref17_Bind_l0 a1 b2) (0, (fun _ => 0#8)) m29 ∧
 r = m29
def letheref17_three_l0 (p1 : Nat → BitVec 8) (q_2 : Nat → BitVec 8) (r : ((Nat → BitVec 8) × Nat)) (s : (Nat × (Nat → BitVec 8))) (o54 : (Nat × (Nat → BitVec 8)) ⊕ (Option (Nat → BitVec 8))) : Prop :=
 match s with
 | (i_51, m52) =>
   if i_51 < 3 then (
     ∃ x_64 : Nat → BitVec 8, ∃ x_65 : Nat, letheref07_Shared (fun q => p1 ((i_51 * 32) + q)) (fun q => q_2 ((i_51 * 32) + q)) (x_64, x_65) ∧
     if x_65 ≠ 0 then (
       o54 = .inr none ∧ r = (m52, x_65)
     ) else (
       o54 = .inl ((i_51 + 1), (spl m52 (i_51 * 32) 32 x_64))
     )
   ) else (
     o54 = .inr (some m52)
   )
def letheref17_three (p1 : Nat → BitVec 8) (q_2 : Nat → BitVec 8) (r : ((Nat → BitVec 8) × Nat)) : Prop :=
 ∃ x54 : Option (Nat → BitVec 8), Iter (letheref17_three_l0 p1 q_2 r) (0, (fun _ => 0#8)) x54 ∧ (∀ (m53 : Nat → BitVec 8), x54 = some m53 →
 r = (m53, 0)
 )
def letheref17_Made_l0  (s : ((List Byte) × Nat)) (o32 : ((List Byte) × Nat) ⊕ (List Byte)) : Prop :=
 match s with
 | (in_29, i_30) =>
   if i_30 < 32 then (
     (i_30 < (List.replicate 32 0#8).length) ∧
     o32 = .inl ((in_29.set i_30 (255#8)), (i_30 + 1))
   ) else (
     o32 = .inr in_29
   )
def letheref17_Made_l1 (b682 : List Byte) (s : (Nat × (Nat → BitVec 8) × (Nat → BitVec 8))) (o1366 : (Nat × (Nat → BitVec 8) × (Nat → BitVec 8)) ⊕ ((Nat → BitVec 8) × (Nat → BitVec 8))) : Prop :=
 match s with
 | (i_1361, m1362, m1363) =>
   if i_1361 < 48 then (
     if i_1361 < 32 then (
       (i_1361 < b682.length) ∧
       o1366 = .inl ((i_1361 + 1), m1362, (upd m1363 i_1361 (lit b682 i_1361)))
     ) else (
       (i_1361 < b682.length) ∧
       o1366 = .inl ((i_1361 + 1), (upd m1362 (i_1361 - 32) (lit b682 i_1361)), m1363)
     )
   ) else (
     o1366 = .inr (m1362, m1363)
   )
def letheref17_Made (x_1 : Nat → BitVec 8) (y2 : Nat → BitVec 8) (z3 : Nat → BitVec 8) (r : ((Nat → BitVec 8) × (Nat → BitVec 8))) : Prop :=
 ∃ in_31 : List Byte, Iter (letheref17_Made_l0) ((List.replicate 32 0#8), 0) in_31 ∧
 ∃ b682 : List Byte, (
   ∃ x_689 : List Byte, letheref03_Joined ([in_31, (dl 32 x_1), (dl 32 y2), (dl 32 z3)] : List (List Byte)) x_689 ∧
   ∃ t985 : List Byte, t985 = (List.replicate 32 0#8) ∧
   ∃ t986 : List Byte, t986 = x_689 ∧
   ((∃ x_991 : List Byte, ∃ x_992 : Nat, letheref03_Derive t985 t986 (dl 11 (lit ([108#8, 101#8, 116#8, 104#8, 101#8, 32#8, 102#8, 105#8, 114#8, 115#8, 116#8] : List Byte))) 48 (.inl (x_991, x_992)) ∧
     b682 = x_991
   ) ∨ (∃ x_993 : List Byte, ∃ x_994 : Nat, letheref03_Derive t985 t986 (dl 11 (lit ([108#8, 101#8, 116#8, 104#8, 101#8, 32#8, 102#8, 105#8, 114#8, 115#8, 116#8] : List Byte))) 48 (.inr (x_993, x_994)) ∧
     b682 = x_993
   ))
 ) ∧
 ∃ m1364 : Nat → BitVec 8, ∃ m1365 : Nat → BitVec 8, Iter (letheref17_Made_l1 b682) (0, (fun _ => 0#8), (fun _ => 0#8)) (m1364, m1365) ∧
 r = (m1365, m1364)
def letheref17_Start (ownPriv1 : Nat → BitVec 8) (ownPub2 : Nat → BitVec 8) (oncePriv3 : Nat → BitVec 8) (oncePub4 : Nat → BitVec 8) (offerIdentity5 : Nat → BitVec 8) (offerPrekey6 : BitVec 32) (offerKey7 : Nat → BitVec 8) (r : ((Nat → BitVec 8) × (Nat → BitVec 8) × (Nat → BitVec 8) × (Nat → BitVec 8) × (Nat → BitVec 8) × (BitVec 32) × Nat)) : Prop :=
 if offerPrekey6 = 0#32 then (
   r = ((fun _ => 0#8), (fun _ => 0#8), (fun _ => 0#8), (fun _ => 0#8), (fun _ => 0#8), 0#32, 170)
 ) else (
   ∃ x_21 : Nat → BitVec 8, ∃ x_22 : Nat, letheref17_three (arrs 32 (0#8) [ownPriv1, oncePriv3, oncePriv3]) (arrs 32 (0#8) [offerKey7, offerIdentity5, offerKey7]) (x_21, x_22) ∧
   if x_22 ≠ 0 then (
     r = ((fun _ => 0#8), (fun _ => 0#8), (fun _ => 0#8), (fun _ => 0#8), (fun _ => 0#8), 0#32, x_22)
   ) else (
     ∃ x_36 : Nat → BitVec 8, letheref17_Bind ownPub2 offerIdentity5 x_36 ∧
     ∃ x_42 : Nat → BitVec 8, ∃ x_43 : Nat → BitVec 8, letheref17_Made (fun q => x_21 ((0 * 32) + q)) (fun q => x_21 ((1 * 32) + q)) (fun q => x_21 ((2 * 32) + q)) (x_42, x_43) ∧
     r = (x_42, x_43, x_36, ownPub2, oncePub4, offerPrekey6, 0)
   )
 )
def letheref17_Meet (ownPriv1 : Nat → BitVec 8) (ownPub2 : Nat → BitVec 8) (prekeyPriv3 : Nat → BitVec 8) (prekeyPub4 : Nat → BitVec 8) (helloIdentity5 : Nat → BitVec 8) (helloOnce6 : Nat → BitVec 8) (helloPrekey7 : BitVec 32) (r : ((Nat → BitVec 8) × (Nat → BitVec 8) × (Nat → BitVec 8) × (Nat → BitVec 8) × (Nat → BitVec 8) × (BitVec 32) × Nat)) : Prop :=
 if helloPrekey7 = 0#32 then (
   r = ((fun _ => 0#8), (fun _ => 0#8), (fun _ => 0#8), (fun _ => 0#8), (fun _ => 0#8), 0#32, 170)
 ) else (
   ∃ x_21 : Nat → BitVec 8, ∃ x_22 : Nat, letheref17_three (arrs 32 (0#8) [prekeyPriv3, ownPriv1, prekeyPriv3]) (arrs 32 (0#8) [helloIdentity5, helloOnce6, helloOnce6]) (x_21, x_22) ∧
   if x_22 ≠ 0 then (
     r = ((fun _ => 0#8), (fun _ => 0#8), (fun _ => 0#8), (fun _ => 0#8), (fun _ => 0#8), 0#32, x_22)
   ) else (
     ∃ x_34 : Nat → BitVec 8, letheref17_Bind helloIdentity5 ownPub2 x_34 ∧
     ∃ x_40 : Nat → BitVec 8, ∃ x_41 : Nat → BitVec 8, letheref17_Made (fun q => x_21 ((0 * 32) + q)) (fun q => x_21 ((1 * 32) + q)) (fun q => x_21 ((2 * 32) + q)) (x_40, x_41) ∧
     r = (x_40, x_41, x_34, (fun _ => 0#8), (fun _ => 0#8), 0#32, 0)
   )
 )
end Go.Proofs.YtjclppnbbpnfnaaDoor
