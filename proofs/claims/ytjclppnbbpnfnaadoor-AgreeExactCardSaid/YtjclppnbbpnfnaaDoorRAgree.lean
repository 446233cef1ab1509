/-
 RELATIONS of the package's functions, printed by this session's own program (auto.py).
-/
import Derived.Test.YtjclppnbbpnfnaaDoorEb
import Derived.Test.YtjclppnbbpnfnaaDoorFldT
import Derived.Test.YtjclppnbbpnfnaaDoorShaM
import Derived.Test.YtjclppnbbpnfnaaDoorRBytes
import Derived.Test.YtjclppnbbpnfnaaDoorRCurve
import Derived.Test.YtjclppnbbpnfnaaDoorRKdf
namespace Go.Proofs.YtjclppnbbpnfnaaDoor
set_option linter.unusedSimpArgs false
set_option linter.unusedVariables false
set_option linter.unusedSectionVars false
open Go Go.LW
def agree_made_l0 (three1 : List ((Nat → BitVec 8) × (Nat → BitVec 8))) (r : ((Nat → BitVec 8) × (Nat → BitVec 8) × Nat)) (s : ((List Byte) × Nat)) (o72 : ((List Byte) × Nat) ⊕ (Option (List Byte))) : Prop :=
 match s with
 | (key69, t70) =>
   if t70 < three1.length then (
     (t70 < three1.length) ∧
     ∃ x_86 : Nat → BitVec 8, ∃ x_87 : Nat, curve_Shared ((three1.getD t70 ((fun _ => 0#8), (fun _ => 0#8))).1) ((three1.getD t70 ((fun _ => 0#8), (fun _ => 0#8))).2) (x_86, x_87) ∧
     if x_87 ≠ 0 then (
       o72 = .inr none ∧ r = ((fun _ => 0#8), (fun _ => 0#8), x_87)
     ) else (
       (key69.length + 32 ≤ 140737488355328) ∧
       ((t70 + 1) < 9223372036854775808) ∧
       o72 = .inl ((key69 ++ (dl 32 x_86)), (t70 + 1))
     )
   ) else (
     o72 = .inr (some key69)
   )
def agree_made (three1 : List ((Nat → BitVec 8) × (Nat → BitVec 8))) (r : ((Nat → BitVec 8) × (Nat → BitVec 8) × Nat)) : Prop :=
 ∃ x_8 : List Byte, bytes_Repeat ([255#8] : List Byte) 32 x_8 ∧
 ∃ x72 : Option (List Byte), Iter (agree_made_l0 three1 r) (x_8, 0) x72 ∧ (∀ (key71 : List Byte), x72 = some key71 →
 ∃ x_107 : List Byte, ∃ x_108 : Nat, kdf_Derive (List.replicate 32 0#8) key71 (dl 11 (lit ([108#8, 101#8, 116#8, 104#8, 101#8, 32#8, 102#8, 105#8, 114#8, 115#8, 116#8] : List Byte))) 48 (x_107, x_108) ∧
 if x_108 ≠ 0 then (
   r = ((fun _ => 0#8), (fun _ => 0#8), x_108)
 ) else (
   (32 ≤ x_107.length ∧ x_107.length ≤ x_107.length) ∧
   r = ((spl (fun _ => 0#8) 0 (min x_107.length 32) (lit x_107)), (spl (fun _ => 0#8) 0 (min (x_107.length - 32) 16) (lit (seg x_107 32 x_107.length))), x_108)
 )
 )
def agree_bound (first1 : Nat → BitVec 8) (other2 : Nat → BitVec 8) (r : (Nat → BitVec 8)) : Prop :=
 r = (spl (spl (fun _ => 0#8) 0 32 (lit (dl 32 first1))) 32 32 (lit (dl 32 other2)))
def agree_Start (ownPriv1 : Nat → BitVec 8) (ownPub2 : Nat → BitVec 8) (oncePriv3 : Nat → BitVec 8) (oncePub4 : Nat → BitVec 8) (offerIdentity5 : Nat → BitVec 8) (offerPrekey6 : BitVec 32) (offerKey7 : Nat → BitVec 8) (r : ((Nat → BitVec 8) × (Nat → BitVec 8) × (Nat → BitVec 8) × (Nat → BitVec 8) × (Nat → BitVec 8) × (BitVec 32) × Nat)) : Prop :=
 if offerPrekey6 = 0#32 then (
   r = ((fun _ => 0#8), (fun _ => 0#8), (fun _ => 0#8), (fun _ => 0#8), (fun _ => 0#8), 0#32, 170)
 ) else (
   ∃ x_25 : Nat → BitVec 8, ∃ x_26 : Nat → BitVec 8, ∃ x_27 : Nat, agree_made ([(ownPriv1, offerKey7), (oncePriv3, offerIdentity5), (oncePriv3, offerKey7)] : List ((Nat → BitVec 8) × (Nat → BitVec 8))) (x_25, x_26, x_27) ∧
   if x_27 ≠ 0 then (
     r = (x_25, x_26, (fun _ => 0#8), (fun _ => 0#8), (fun _ => 0#8), 0#32, x_27)
   ) else (
     ∃ x_38 : Nat → BitVec 8, agree_bound ownPub2 offerIdentity5 x_38 ∧
     r = (x_25, x_26, x_38, ownPub2, oncePub4, offerPrekey6, 0)
   )
 )
def agree_Meet (ownPriv1 : Nat → BitVec 8) (ownPub2 : Nat → BitVec 8) (prekeyPriv3 : Nat → BitVec 8) (prekeyPub4 : Nat → BitVec 8) (helloIdentity5 : Nat → BitVec 8) (helloOnce6 : Nat → BitVec 8) (helloPrekey7 : BitVec 32) (r : ((Nat → BitVec 8) × (Nat → BitVec 8) × (Nat → BitVec 8) × Nat)) : Prop :=
 if helloPrekey7 = 0#32 then (
   r = ((fun _ => 0#8), (fun _ => 0#8), (fun _ => 0#8), 170)
 ) else (
   ∃ x_24 : Nat → BitVec 8, ∃ x_25 : Nat → BitVec 8, ∃ x_26 : Nat, agree_made ([(prekeyPriv3, helloIdentity5), (ownPriv1, helloOnce6), (prekeyPriv3, helloOnce6)] : List ((Nat → BitVec 8) × (Nat → BitVec 8))) (x_24, x_25, x_26) ∧
   if x_26 ≠ 0 then (
     r = (x_24, x_25, (fun _ => 0#8), x_26)
   ) else (
     ∃ x_37 : Nat → BitVec 8, agree_bound helloIdentity5 ownPub2 x_37 ∧
     r = (x_24, x_25, x_37, 0)
   )
 )
end Go.Proofs.YtjclppnbbpnfnaaDoor
