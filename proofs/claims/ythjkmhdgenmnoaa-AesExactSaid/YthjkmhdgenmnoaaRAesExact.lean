/-
 RELATIONS of the package's functions, printed by this session's own program (auto.py).
-/
import Derived.Test.YthjkmhdgenmnoaaEc
import Derived.Test.YthjkmhdgenmnoaaRAes
import Derived.Test.YthjkmhdgenmnoaaRLaw04
import Derived.Test.YthjkmhdgenmnoaaRRef04
namespace Go.Proofs.Ythjkmhdgenmnoaa
set_option linter.unusedSimpArgs false
set_option linter.unusedVariables false
set_option linter.unusedSectionVars false
open Go Go.LW
def lethelaw04_AesExact_l0 (x_542 : List Byte) (s : ((List Byte) × Nat)) (o1039 : ((List Byte) × Nat) ⊕ Unit) : Prop :=
 match s with
 | (x_1037, i_1038) =>
   if i_1038 < x_542.length then (
     (i_1038 < x_542.length) ∧
     ((i_1038 + 1) < 9223372036854775808) ∧
     o1039 = .inl ((x_1037.set i_1038 (85#8)), (i_1038 + 1))
   ) else (
     o1039 = .inr ()
   )
def lethelaw04_AesExact_l1 (x_1589 : List Byte) (s : ((List Byte) × Nat)) (o2086 : ((List Byte) × Nat) ⊕ Unit) : Prop :=
 match s with
 | (x_2084, i_2085) =>
   if i_2085 < x_1589.length then (
     (i_2085 < x_1589.length) ∧
     ((i_2085 + 1) < 9223372036854775808) ∧
     o2086 = .inl ((x_2084.set i_2085 (85#8)), (i_2085 + 1))
   ) else (
     o2086 = .inr ()
   )
def lethelaw04_AesExact_l3 (x_8984 : List Byte) (s : ((List Byte) × Nat)) (o10071 : ((List Byte) × Nat) ⊕ Unit) : Prop :=
 match s with
 | (x_10069, i_10070) =>
   if i_10070 < x_8984.length then (
     (i_10070 < x_8984.length) ∧
     ((i_10070 + 1) < 9223372036854775808) ∧
     o10071 = .inl ((x_10069.set i_10070 (85#8)), (i_10070 + 1))
   ) else (
     o10071 = .inr ()
   )
def lethelaw04_AesExact_l2 (script1 : List (Int × Int × (BitVec 8) × (BitVec 8) × (BitVec 64) × (Nat → BitVec 8) × (List Byte))) (r : Bool) (s : (Nat × (Nat → BitVec 8) × (Nat → BitVec 8) × (Nat → BitVec 8) × (Nat → BitVec 8) × (Nat → BitVec 8) × (Nat → BitVec 8) × (Nat → BitVec 8) × (Nat → BitVec 8) × (List (Nat → BitVec 8)) × (Nat → BitVec 8) × (Nat → BitVec 8) × (List (Nat → BitVec 8)) × (Nat → BitVec 8) × (Nat → BitVec 8) × (List (List Byte)) × (List (List Byte)))) (o7627 : (Nat × (Nat → BitVec 8) × (Nat → BitVec 8) × (Nat → BitVec 8) × (Nat → BitVec 8) × (Nat → BitVec 8) × (Nat → BitVec 8) × (Nat → BitVec 8) × (Nat → BitVec 8) × (List (Nat → BitVec 8)) × (Nat → BitVec 8) × (Nat → BitVec 8) × (List (Nat → BitVec 8)) × (Nat → BitVec 8) × (Nat → BitVec 8) × (List (List Byte)) × (List (List Byte))) ⊕ (Option ((Nat → BitVec 8) × (Nat → BitVec 8) × (Nat → BitVec 8) × (Nat → BitVec 8) × (Nat → BitVec 8) × (Nat → BitVec 8) × (Nat → BitVec 8) × (Nat → BitVec 8) × (List (Nat → BitVec 8)) × (Nat → BitVec 8) × (Nat → BitVec 8) × (List (Nat → BitVec 8)) × (Nat → BitVec 8) × (Nat → BitVec 8) × (List (List Byte)) × (List (List Byte))))) : Prop :=
 match s with
 | (i_7584, m7586, m7587, m7588, m7589, m7591, m7592, m7593, m7594, m7596, m7597, m7598, m7600, m7601, m7602, m7603, m7605) =>
   if i_7584 < script1.length then (
     if i_7584 < 40 then (
       (i_7584 < script1.length) ∧
       ∃ script8957 : Bool, ∃ m8959 : Nat → BitVec 8, ∃ m8960 : Nat → BitVec 8, ∃ m8961 : Nat → BitVec 8, ∃ m8962 : Nat → BitVec 8, ∃ m8964 : Nat → BitVec 8, ∃ m8965 : Nat → BitVec 8, ∃ m8966 : Nat → BitVec 8, ∃ m8967 : Nat → BitVec 8, ∃ m8969 : List (Nat → BitVec 8), ∃ m8970 : Nat → BitVec 8, ∃ m8971 : Nat → BitVec 8, ∃ m8973 : List (Nat → BitVec 8), ∃ m8974 : Nat → BitVec 8, ∃ m8975 : Nat → BitVec 8, ∃ m8976 : List (List Byte), ∃ m8977 : List (List Byte), (
         ∃ kz8981 : Int, kz8981 = ((script1.getD i_7584 ((0 : Int), (0 : Int), 0#8, 0#8, 0#64, (fun _ => 0#8), ([] : List Byte))).2.1) % 2 ∧
         ∃ x_8984 : List Byte, lethelaw04_Room ((script1.getD i_7584 ((0 : Int), (0 : Int), 0#8, 0#8, 0#64, (fun _ => 0#8), ([] : List Byte))).2.2.2.2.2.2) x_8984 ∧
         (0 ≤ ((script1.getD i_7584 ((0 : Int), (0 : Int), 0#8, 0#8, 0#64, (fun _ => 0#8), ([] : List Byte))).2.2.2.2.2.2).length ∧ ((script1.getD i_7584 ((0 : Int), (0 : Int), 0#8, 0#8, 0#64, (fun _ => 0#8), ([] : List Byte))).2.2.2.2.2.2).length ≤ x_8984.length) ∧
         ∃ ok9632 : Bool, ∃ x_9618 : List Byte, ∃ ok9619 : Bool, ∃ m9621 : List (Nat → BitVec 8), ∃ m9622 : Nat → BitVec 8, ∃ m9623 : Nat → BitVec 8, ∃ m9625 : List (Nat → BitVec 8), ∃ m9626 : Nat → BitVec 8, ∃ m9627 : Nat → BitVec 8, ∃ m9628 : List (List Byte), ∃ m9629 : List (List Byte), ∃ m9630 : Nat → BitVec 8, ∃ m9631 : Nat → BitVec 8, (
           if (script1.getD i_7584 ((0 : Int), (0 : Int), 0#8, 0#8, 0#64, (fun _ => 0#8), ([] : List Byte))).1 = 1 then (
             ∃ x_9638 : BitVec 8, aes_Mul ((script1.getD i_7584 ((0 : Int), (0 : Int), 0#8, 0#8, 0#64, (fun _ => 0#8), ([] : List Byte))).2.2.1) ((script1.getD i_7584 ((0 : Int), (0 : Int), 0#8, 0#8, 0#64, (fun _ => 0#8), ([] : List Byte))).2.2.2.1) x_9638 ∧
             ∃ x_9641 : BitVec 8, letheref04_Mul ((script1.getD i_7584 ((0 : Int), (0 : Int), 0#8, 0#8, 0#64, (fun _ => 0#8), ([] : List Byte))).2.2.1) ((script1.getD i_7584 ((0 : Int), (0 : Int), 0#8, 0#8, 0#64, (fun _ => 0#8), ([] : List Byte))).2.2.2.1) x_9641 ∧
             if x_9638 = x_9641 then (
               ∃ x_9645 : BitVec 8, aes_Box ((script1.getD i_7584 ((0 : Int), (0 : Int), 0#8, 0#8, 0#64, (fun _ => 0#8), ([] : List Byte))).2.2.1) x_9645 ∧
               ∃ x_9648 : BitVec 8, letheref04_Box ((script1.getD i_7584 ((0 : Int), (0 : Int), 0#8, 0#8, 0#64, (fun _ => 0#8), ([] : List Byte))).2.2.1) x_9648 ∧
               if x_9645 = x_9648 then (
                 ∃ x_9652 : BitVec 8, aes_Unbox ((script1.getD i_7584 ((0 : Int), (0 : Int), 0#8, 0#8, 0#64, (fun _ => 0#8), ([] : List Byte))).2.2.1) x_9652 ∧
                 ∃ x_9655 : BitVec 8, letheref04_Unbox ((script1.getD i_7584 ((0 : Int), (0 : Int), 0#8, 0#8, 0#64, (fun _ => 0#8), ([] : List Byte))).2.2.1) x_9655 ∧
                 ok9632 = true ∧ x_9618 = x_8984 ∧ ok9619 = (decide (x_9652 = x_9655)) ∧ m9621 = m7596 ∧ m9622 = m7597 ∧ m9623 = m7598 ∧ m9625 = m7600 ∧ m9626 = m7601 ∧ m9627 = m7602 ∧ m9628 = m7603 ∧ m9629 = m7605 ∧ m9630 = m7586 ∧ m9631 = m7591
               ) else (
                 ok9632 = true ∧ x_9618 = x_8984 ∧ ok9619 = false ∧ m9621 = m7596 ∧ m9622 = m7597 ∧ m9623 = m7598 ∧ m9625 = m7600 ∧ m9626 = m7601 ∧ m9627 = m7602 ∧ m9628 = m7603 ∧ m9629 = m7605 ∧ m9630 = m7586 ∧ m9631 = m7591
               )
             ) else (
               ok9632 = true ∧ x_9618 = x_8984 ∧ ok9619 = false ∧ m9621 = m7596 ∧ m9622 = m7597 ∧ m9623 = m7598 ∧ m9625 = m7600 ∧ m9626 = m7601 ∧ m9627 = m7602 ∧ m9628 = m7603 ∧ m9629 = m7605 ∧ m9630 = m7586 ∧ m9631 = m7591
             )
           ) else (
             if (script1.getD i_7584 ((0 : Int), (0 : Int), 0#8, 0#8, 0#64, (fun _ => 0#8), ([] : List Byte))).1 = 2 then (
               ∃ x_9667 : Nat → BitVec 8, aes_Next ((script1.getD i_7584 ((0 : Int), (0 : Int), 0#8, 0#8, 0#64, (fun _ => 0#8), ([] : List Byte))).2.2.2.2.2.1) ((script1.getD i_7584 ((0 : Int), (0 : Int), 0#8, 0#8, 0#64, (fun _ => 0#8), ([] : List Byte))).2.2.2.2.1) x_9667 ∧
               ∃ x_9670 : Nat → BitVec 8, letheref04_Next ((script1.getD i_7584 ((0 : Int), (0 : Int), 0#8, 0#8, 0#64, (fun _ => 0#8), ([] : List Byte))).2.2.2.2.2.1) ((script1.getD i_7584 ((0 : Int), (0 : Int), 0#8, 0#8, 0#64, (fun _ => 0#8), ([] : List Byte))).2.2.2.2.1) x_9670 ∧
               ok9632 = true ∧ x_9618 = x_8984 ∧ ok9619 = (eqB 16 x_9667 x_9670) ∧ m9621 = m7596 ∧ m9622 = m7597 ∧ m9623 = m7598 ∧ m9625 = m7600 ∧ m9626 = m7601 ∧ m9627 = m7602 ∧ m9628 = m7603 ∧ m9629 = m7605 ∧ m9630 = m7586 ∧ m9631 = m7591
             ) else (
               if (script1.getD i_7584 ((0 : Int), (0 : Int), 0#8, 0#8, 0#64, (fun _ => 0#8), ([] : List Byte))).1 = 3 then (
                 ∃ x_9852 : List Byte, ∃ ok9853 : Bool, ∃ m9855 : Nat → BitVec 8, ∃ m9856 : Nat → BitVec 8, ∃ m9857 : Nat → BitVec 8, ∃ m9858 : Nat → BitVec 8, ∃ m9860 : Nat → BitVec 8, ∃ m9861 : Nat → BitVec 8, ∃ m9862 : Nat → BitVec 8, ∃ m9863 : Nat → BitVec 8, ∃ m9865 : List (Nat → BitVec 8), ∃ m9866 : Nat → BitVec 8, ∃ m9867 : Nat → BitVec 8, ∃ m9869 : List (Nat → BitVec 8), ∃ m9870 : Nat → BitVec 8, ∃ m9871 : Nat → BitVec 8, (
                   ∃ t9945 : Bool, ∃ m9947 : Nat → BitVec 8, ∃ m9948 : Nat → BitVec 8, ∃ m9949 : Nat → BitVec 8, ∃ m9950 : Nat → BitVec 8, ∃ m9952 : Nat → BitVec 8, ∃ m9953 : Nat → BitVec 8, ∃ m9954 : Nat → BitVec 8, ∃ m9955 : Nat → BitVec 8, ∃ m9957 : List (Nat → BitVec 8), ∃ m9958 : Nat → BitVec 8, ∃ m9959 : Nat → BitVec 8, ∃ m9961 : List (Nat → BitVec 8), ∃ m9962 : Nat → BitVec 8, ∃ m9963 : Nat → BitVec 8, (
                     ∃ kz9967 : Int, kz9967 = ((script1.getD i_7584 ((0 : Int), (0 : Int), 0#8, 0#8, 0#64, (fun _ => 0#8), ([] : List Byte))).2.1) % 2 ∧
                     ((∃ x_9970 : Nat, aes_New (seg x_8984 0 (((script1.getD i_7584 ((0 : Int), (0 : Int), 0#8, 0#8, 0#64, (fun _ => 0#8), ([] : List Byte))).2.2.2.2.2.2).length)) (.inl x_9970) ∧
                       if ((script1.getD i_7584 ((0 : Int), (0 : Int), 0#8, 0#8, 0#64, (fun _ => 0#8), ([] : List Byte))).2.2.2.2.2.2).length ≠ 32 then (
                         if x_9970 = 40 then (
                           t9945 = true ∧ m9947 = m7586 ∧ m9948 = m7587 ∧ m9949 = m7588 ∧ m9950 = m7589 ∧ m9952 = m7591 ∧ m9953 = m7592 ∧ m9954 = m7593 ∧ m9955 = m7594 ∧ m9957 = m7596 ∧ m9958 = m7597 ∧ m9959 = m7598 ∧ m9961 = m7600 ∧ m9962 = m7601 ∧ m9963 = m7602
                         ) else (
                           t9945 = false ∧ m9947 = m7586 ∧ m9948 = m7587 ∧ m9949 = m7588 ∧ m9950 = m7589 ∧ m9952 = m7591 ∧ m9953 = m7592 ∧ m9954 = m7593 ∧ m9955 = m7594 ∧ m9957 = m7596 ∧ m9958 = m7597 ∧ m9959 = m7598 ∧ m9961 = m7600 ∧ m9962 = m7601 ∧ m9963 = m7602
                         )
                       ) else (
                         if kz9967 = 0 then (
                           False
                         ) else (
                           (kz9967 = 1) ∧
                           False
                         )
                       )
                     ) ∨ (∃ x_9971 : Nat → BitVec 8, ∃ x_9972 : Nat → BitVec 8, ∃ x_9973 : Nat → BitVec 8, ∃ x_9974 : Nat → BitVec 8, ∃ x_9975 : Nat, aes_New (seg x_8984 0 (((script1.getD i_7584 ((0 : Int), (0 : Int), 0#8, 0#8, 0#64, (fun _ => 0#8), ([] : List Byte))).2.2.2.2.2.2).length)) (.inr (x_9971, x_9972, x_9973, x_9974, x_9975)) ∧
                       if ((script1.getD i_7584 ((0 : Int), (0 : Int), 0#8, 0#8, 0#64, (fun _ => 0#8), ([] : List Byte))).2.2.2.2.2.2).length ≠ 32 then (
                         if x_9975 = 40 then (
                           t9945 = false ∧ m9947 = m7586 ∧ m9948 = m7587 ∧ m9949 = m7588 ∧ m9950 = m7589 ∧ m9952 = m7591 ∧ m9953 = m7592 ∧ m9954 = m7593 ∧ m9955 = m7594 ∧ m9957 = m7596 ∧ m9958 = m7597 ∧ m9959 = m7598 ∧ m9961 = m7600 ∧ m9962 = m7601 ∧ m9963 = m7602
                         ) else (
                           t9945 = false ∧ m9947 = m7586 ∧ m9948 = m7587 ∧ m9949 = m7588 ∧ m9950 = m7589 ∧ m9952 = m7591 ∧ m9953 = m7592 ∧ m9954 = m7593 ∧ m9955 = m7594 ∧ m9957 = m7596 ∧ m9958 = m7597 ∧ m9959 = m7598 ∧ m9961 = m7600 ∧ m9962 = m7601 ∧ m9963 = m7602
                         )
                       ) else (
                         if kz9967 = 0 then (
                           ((letheref04_New ((script1.getD i_7584 ((0 : Int), (0 : Int), 0#8, 0#8, 0#64, (fun _ => 0#8), ([] : List Byte))).2.2.2.2.2.2) (.inl ()) ∧
                             False
                           ) ∨ (∃ x_10004 : List (Nat → BitVec 8), ∃ x_10005 : Nat → BitVec 8, ∃ x_10006 : Nat → BitVec 8, letheref04_New ((script1.getD i_7584 ((0 : Int), (0 : Int), 0#8, 0#8, 0#64, (fun _ => 0#8), ([] : List Byte))).2.2.2.2.2.2) (.inr (x_10004, x_10005, x_10006)) ∧
                             if x_9975 = 0 then (
                               t9945 = true ∧ m9947 = x_9971 ∧ m9948 = x_9972 ∧ m9949 = x_9973 ∧ m9950 = x_9974 ∧ m9952 = m7591 ∧ m9953 = m7592 ∧ m9954 = m7593 ∧ m9955 = m7594 ∧ m9957 = x_10004 ∧ m9958 = x_10005 ∧ m9959 = x_10006 ∧ m9961 = m7600 ∧ m9962 = m7601 ∧ m9963 = m7602
                             ) else (
                               t9945 = false ∧ m9947 = x_9971 ∧ m9948 = x_9972 ∧ m9949 = x_9973 ∧ m9950 = x_9974 ∧ m9952 = m7591 ∧ m9953 = m7592 ∧ m9954 = m7593 ∧ m9955 = m7594 ∧ m9957 = x_10004 ∧ m9958 = x_10005 ∧ m9959 = x_10006 ∧ m9961 = m7600 ∧ m9962 = m7601 ∧ m9963 = m7602
                             )
                           ))
                         ) else (
                           (kz9967 = 1) ∧
                           ((letheref04_New ((script1.getD i_7584 ((0 : Int), (0 : Int), 0#8, 0#8, 0#64, (fun _ => 0#8), ([] : List Byte))).2.2.2.2.2.2) (.inl ()) ∧
                             False
                           ) ∨ (∃ x_10026 : List (Nat → BitVec 8), ∃ x_10027 : Nat → BitVec 8, ∃ x_10028 : Nat → BitVec 8, letheref04_New ((script1.getD i_7584 ((0 : Int), (0 : Int), 0#8, 0#8, 0#64, (fun _ => 0#8), ([] : List Byte))).2.2.2.2.2.2) (.inr (x_10026, x_10027, x_10028)) ∧
                             if x_9975 = 0 then (
                               t9945 = true ∧ m9947 = m7586 ∧ m9948 = m7587 ∧ m9949 = m7588 ∧ m9950 = m7589 ∧ m9952 = x_9971 ∧ m9953 = x_9972 ∧ m9954 = x_9973 ∧ m9955 = x_9974 ∧ m9957 = m7596 ∧ m9958 = m7597 ∧ m9959 = m7598 ∧ m9961 = x_10026 ∧ m9962 = x_10027 ∧ m9963 = x_10028
                             ) else (
                               t9945 = false ∧ m9947 = m7586 ∧ m9948 = m7587 ∧ m9949 = m7588 ∧ m9950 = m7589 ∧ m9952 = x_9971 ∧ m9953 = x_9972 ∧ m9954 = x_9973 ∧ m9955 = x_9974 ∧ m9957 = m7596 ∧ m9958 = m7597 ∧ m9959 = m7598 ∧ m9961 = x_10026 ∧ m9962 = x_10027 ∧ m9963 = x_10028
                             )
                           ))
                         )
                       )
                     ))
                   ) ∧
                   if t9945 = true then (
                     ∃ x_10046 : Bool, lethelaw04_Kept x_8984 ((script1.getD i_7584 ((0 : Int), (0 : Int), 0#8, 0#8, 0#64, (fun _ => 0#8), ([] : List Byte))).2.2.2.2.2.2) x_10046 ∧
                     x_9852 = x_8984 ∧ ok9853 = x_10046 ∧ m9855 = m9947 ∧ m9856 = m9948 ∧ m9857 = m9949 ∧ m9858 = m9950 ∧ m9860 = m9952 ∧ m9861 = m9953 ∧ m9862 = m9954 ∧ m9863 = m9955 ∧ m9865 = m9957 ∧ m9866 = m9958 ∧ m9867 = m9959 ∧ m9869 = m9961 ∧ m9870 = m9962 ∧ m9871 = m9963
                   ) else (
                     x_9852 = x_8984 ∧ ok9853 = false ∧ m9855 = m9947 ∧ m9856 = m9948 ∧ m9857 = m9949 ∧ m9858 = m9950 ∧ m9860 = m9952 ∧ m9861 = m9953 ∧ m9862 = m9954 ∧ m9863 = m9955 ∧ m9865 = m9957 ∧ m9866 = m9958 ∧ m9867 = m9959 ∧ m9869 = m9961 ∧ m9870 = m9962 ∧ m9871 = m9963
                   )
                 ) ∧
                 Iter (lethelaw04_AesExact_l3 x_8984) (x_9852, 0) () ∧
                 ok9632 = false ∧ script8957 = ok9853 ∧ m8959 = m9855 ∧ m8960 = m9856 ∧ m8961 = m9857 ∧ m8962 = m9858 ∧ m8964 = m9860 ∧ m8965 = m9861 ∧ m8966 = m9862 ∧ m8967 = m9863 ∧ m8969 = m9865 ∧ m8970 = m9866 ∧ m8971 = m9867 ∧ m8973 = m9869 ∧ m8974 = m9870 ∧ m8975 = m9871 ∧ m8976 = m7603 ∧ m8977 = m7605
               ) else (
                 if (script1.getD i_7584 ((0 : Int), (0 : Int), 0#8, 0#8, 0#64, (fun _ => 0#8), ([] : List Byte))).1 = 4 then (
                   if kz8981 = 0 then (
                     ∃ x_10090 : Nat → BitVec 8, aes_Cipher_Encrypt m7586 m7587 m7588 m7589 ((script1.getD i_7584 ((0 : Int), (0 : Int), 0#8, 0#8, 0#64, (fun _ => 0#8), ([] : List Byte))).2.2.2.2.2.1) x_10090 ∧
                     ∃ x_10094 : Nat → BitVec 8, letheref04_Cipher_Encrypt m7596 m7597 m7598 ((script1.getD i_7584 ((0 : Int), (0 : Int), 0#8, 0#8, 0#64, (fun _ => 0#8), ([] : List Byte))).2.2.2.2.2.1) x_10094 ∧
                     ok9632 = true ∧ x_9618 = x_8984 ∧ ok9619 = (eqB 16 x_10090 x_10094) ∧ m9621 = m7596 ∧ m9622 = m7597 ∧ m9623 = m7598 ∧ m9625 = m7600 ∧ m9626 = m7601 ∧ m9627 = m7602 ∧ m9628 = m7603 ∧ m9629 = m7605 ∧ m9630 = m7586 ∧ m9631 = m7591
                   ) else (
                     (kz8981 = 1) ∧
                     ∃ x_10102 : Nat → BitVec 8, aes_Cipher_Encrypt m7591 m7592 m7593 m7594 ((script1.getD i_7584 ((0 : Int), (0 : Int), 0#8, 0#8, 0#64, (fun _ => 0#8), ([] : List Byte))).2.2.2.2.2.1) x_10102 ∧
                     ∃ x_10106 : Nat → BitVec 8, letheref04_Cipher_Encrypt m7600 m7601 m7602 ((script1.getD i_7584 ((0 : Int), (0 : Int), 0#8, 0#8, 0#64, (fun _ => 0#8), ([] : List Byte))).2.2.2.2.2.1) x_10106 ∧
                     ok9632 = true ∧ x_9618 = x_8984 ∧ ok9619 = (eqB 16 x_10102 x_10106) ∧ m9621 = m7596 ∧ m9622 = m7597 ∧ m9623 = m7598 ∧ m9625 = m7600 ∧ m9626 = m7601 ∧ m9627 = m7602 ∧ m9628 = m7603 ∧ m9629 = m7605 ∧ m9630 = m7586 ∧ m9631 = m7591
                   )
                 ) else (
                   if (script1.getD i_7584 ((0 : Int), (0 : Int), 0#8, 0#8, 0#64, (fun _ => 0#8), ([] : List Byte))).1 = 5 then (
                     if kz8981 = 0 then (
                       ∃ x_10116 : Nat → BitVec 8, aes_Cipher_Decrypt m7586 m7587 m7588 m7589 ((script1.getD i_7584 ((0 : Int), (0 : Int), 0#8, 0#8, 0#64, (fun _ => 0#8), ([] : List Byte))).2.2.2.2.2.1) x_10116 ∧
                       ∃ x_10120 : Nat → BitVec 8, letheref04_Cipher_Decrypt m7596 m7597 m7598 ((script1.getD i_7584 ((0 : Int), (0 : Int), 0#8, 0#8, 0#64, (fun _ => 0#8), ([] : List Byte))).2.2.2.2.2.1) x_10120 ∧
                       ok9632 = true ∧ x_9618 = x_8984 ∧ ok9619 = (eqB 16 x_10116 x_10120) ∧ m9621 = m7596 ∧ m9622 = m7597 ∧ m9623 = m7598 ∧ m9625 = m7600 ∧ m9626 = m7601 ∧ m9627 = m7602 ∧ m9628 = m7603 ∧ m9629 = m7605 ∧ m9630 = m7586 ∧ m9631 = m7591
                     ) else (
                       (kz8981 = 1) ∧
                       ∃ x_10128 : Nat → BitVec 8, aes_Cipher_Decrypt m7591 m7592 m7593 m7594 ((script1.getD i_7584 ((0 : Int), (0 : Int), 0#8, 0#8, 0#64, (fun _ => 0#8), ([] : List Byte))).2.2.2.2.2.1) x_10128 ∧
                       ∃ x_10132 : Nat → BitVec 8, letheref04_Cipher_Decrypt m7600 m7601 m7602 ((script1.getD i_7584 ((0 : Int), (0 : Int), 0#8, 0#8, 0#64, (fun _ => 0#8), ([] : List Byte))).2.2.2.2.2.1) x_10132 ∧
                       ok9632 = true ∧ x_9618 = x_8984 ∧ ok9619 = (eqB 16 x_10128 x_10132) ∧ m9621 = m7596 ∧ m9622 = m7597 ∧ m9623 = m7598 ∧ m9625 = m7600 ∧ m9626 = m7601 ∧ m9627 = m7602 ∧ m9628 = m7603 ∧ m9629 = m7605 ∧ m9630 = m7586 ∧ m9631 = m7591
                     )
                   ) else (
                     if (script1.getD i_7584 ((0 : Int), (0 : Int), 0#8, 0#8, 0#64, (fun _ => 0#8), ([] : List Byte))).1 = 6 then (
                       if kz8981 = 0 then (
                         ∃ x_10143 : List Byte, aes_Cipher_Stream m7586 m7587 m7588 m7589 ((script1.getD i_7584 ((0 : Int), (0 : Int), 0#8, 0#8, 0#64, (fun _ => 0#8), ([] : List Byte))).2.2.2.2.2.1) (seg x_8984 0 (((script1.getD i_7584 ((0 : Int), (0 : Int), 0#8, 0#8, 0#64, (fun _ => 0#8), ([] : List Byte))).2.2.2.2.2.2).length)) x_10143 ∧
                         ∃ x_10154 : List Byte, letheref04_Cipher_Hide m7596 m7597 m7598 ((script1.getD i_7584 ((0 : Int), (0 : Int), 0#8, 0#8, 0#64, (fun _ => 0#8), ([] : List Byte))).2.2.2.2.2.1) ((script1.getD i_7584 ((0 : Int), (0 : Int), 0#8, 0#8, 0#64, (fun _ => 0#8), ([] : List Byte))).2.2.2.2.2.2) x_10154 ∧
                         ∃ x_10162 : Bool, lethelaw04_Eq x_10143 x_10154 x_10162 ∧
                         ∃ x_10166 : List (List Byte), ∃ x_10167 : List (List Byte), lethelaw04_Book_Note_at4 m7603 m7605 x_10143 (x_10166, x_10167) ∧
                         ok9632 = true ∧ x_9618 = x_8984 ∧ ok9619 = x_10162 ∧ m9621 = m7596 ∧ m9622 = m7597 ∧ m9623 = m7598 ∧ m9625 = m7600 ∧ m9626 = m7601 ∧ m9627 = m7602 ∧ m9628 = x_10166 ∧ m9629 = x_10167 ∧ m9630 = m7586 ∧ m9631 = m7591
                       ) else (
                         (kz8981 = 1) ∧
                         ∃ x_10189 : List Byte, aes_Cipher_Stream m7591 m7592 m7593 m7594 ((script1.getD i_7584 ((0 : Int), (0 : Int), 0#8, 0#8, 0#64, (fun _ => 0#8), ([] : List Byte))).2.2.2.2.2.1) (seg x_8984 0 (((script1.getD i_7584 ((0 : Int), (0 : Int), 0#8, 0#8, 0#64, (fun _ => 0#8), ([] : List Byte))).2.2.2.2.2.2).length)) x_10189 ∧
                         ∃ x_10200 : List Byte, letheref04_Cipher_Hide m7600 m7601 m7602 ((script1.getD i_7584 ((0 : Int), (0 : Int), 0#8, 0#8, 0#64, (fun _ => 0#8), ([] : List Byte))).2.2.2.2.2.1) ((script1.getD i_7584 ((0 : Int), (0 : Int), 0#8, 0#8, 0#64, (fun _ => 0#8), ([] : List Byte))).2.2.2.2.2.2) x_10200 ∧
                         ∃ x_10208 : Bool, lethelaw04_Eq x_10189 x_10200 x_10208 ∧
                         ∃ x_10212 : List (List Byte), ∃ x_10213 : List (List Byte), lethelaw04_Book_Note_at4 m7603 m7605 x_10189 (x_10212, x_10213) ∧
                         ok9632 = true ∧ x_9618 = x_8984 ∧ ok9619 = x_10208 ∧ m9621 = m7596 ∧ m9622 = m7597 ∧ m9623 = m7598 ∧ m9625 = m7600 ∧ m9626 = m7601 ∧ m9627 = m7602 ∧ m9628 = x_10212 ∧ m9629 = x_10213 ∧ m9630 = m7586 ∧ m9631 = m7591
                       )
                     ) else (
                       if (script1.getD i_7584 ((0 : Int), (0 : Int), 0#8, 0#8, 0#64, (fun _ => 0#8), ([] : List Byte))).1 = 7 then (
                         if kz8981 = 0 then (
                           ∃ x_10237 : Nat → BitVec 8, aes_Cipher_Wipe m7586 m7587 m7588 m7589 x_10237 ∧
                           ((letheref04_New (List.replicate 32 0#8) (.inl ()) ∧
                             False
                           ) ∨ (∃ x_10242 : List (Nat → BitVec 8), ∃ x_10243 : Nat → BitVec 8, ∃ x_10244 : Nat → BitVec 8, letheref04_New (List.replicate 32 0#8) (.inr (x_10242, x_10243, x_10244)) ∧
                             ok9632 = true ∧ x_9618 = x_8984 ∧ ok9619 = true ∧ m9621 = x_10242 ∧ m9622 = x_10243 ∧ m9623 = x_10244 ∧ m9625 = m7600 ∧ m9626 = m7601 ∧ m9627 = m7602 ∧ m9628 = m7603 ∧ m9629 = m7605 ∧ m9630 = x_10237 ∧ m9631 = m7591
                           ))
                         ) else (
                           (kz8981 = 1) ∧
                           ∃ x_10260 : Nat → BitVec 8, aes_Cipher_Wipe m7591 m7592 m7593 m7594 x_10260 ∧
                           ((letheref04_New (List.replicate 32 0#8) (.inl ()) ∧
                             False
                           ) ∨ (∃ x_10265 : List (Nat → BitVec 8), ∃ x_10266 : Nat → BitVec 8, ∃ x_10267 : Nat → BitVec 8, letheref04_New (List.replicate 32 0#8) (.inr (x_10265, x_10266, x_10267)) ∧
                             ok9632 = true ∧ x_9618 = x_8984 ∧ ok9619 = true ∧ m9621 = m7596 ∧ m9622 = m7597 ∧ m9623 = m7598 ∧ m9625 = x_10265 ∧ m9626 = x_10266 ∧ m9627 = x_10267 ∧ m9628 = m7603 ∧ m9629 = m7605 ∧ m9630 = m7586 ∧ m9631 = x_10260
                           ))
                         )
                       ) else (
                         ok9632 = true ∧ x_9618 = x_8984 ∧ ok9619 = true ∧ m9621 = m7596 ∧ m9622 = m7597 ∧ m9623 = m7598 ∧ m9625 = m7600 ∧ m9626 = m7601 ∧ m9627 = m7602 ∧ m9628 = m7603 ∧ m9629 = m7605 ∧ m9630 = m7586 ∧ m9631 = m7591
                       )
                     )
                   )
                 )
               )
             )
           )
         ) ∧
         (ok9632 = true →
         if ok9619 = true then (
           ∃ x_10288 : Bool, lethelaw04_Kept x_9618 ((script1.getD i_7584 ((0 : Int), (0 : Int), 0#8, 0#8, 0#64, (fun _ => 0#8), ([] : List Byte))).2.2.2.2.2.2) x_10288 ∧
           script8957 = x_10288 ∧ m8959 = m9630 ∧ m8960 = m7587 ∧ m8961 = m7588 ∧ m8962 = m7589 ∧ m8964 = m9631 ∧ m8965 = m7592 ∧ m8966 = m7593 ∧ m8967 = m7594 ∧ m8969 = m9621 ∧ m8970 = m9622 ∧ m8971 = m9623 ∧ m8973 = m9625 ∧ m8974 = m9626 ∧ m8975 = m9627 ∧ m8976 = m9628 ∧ m8977 = m9629
         ) else (
           script8957 = false ∧ m8959 = m9630 ∧ m8960 = m7587 ∧ m8961 = m7588 ∧ m8962 = m7589 ∧ m8964 = m9631 ∧ m8965 = m7592 ∧ m8966 = m7593 ∧ m8967 = m7594 ∧ m8969 = m9621 ∧ m8970 = m9622 ∧ m8971 = m9623 ∧ m8973 = m9625 ∧ m8974 = m9626 ∧ m8975 = m9627 ∧ m8976 = m9628 ∧ m8977 = m9629
         )
         )
       ) ∧
       if script8957 = true then (
         ∃ x_10302 : Bool, lethelaw04_Book_Holds_at4 m8976 m8977 x_10302 ∧
         if x_10302 = true then (
           o7627 = .inl ((i_7584 + 1), m8959, m8960, m8961, m8962, m8964, m8965, m8966, m8967, m8969, m8970, m8971, m8973, m8974, m8975, m8976, m8977)
         ) else (
           o7627 = .inr none ∧ r = false
         )
       ) else (
         o7627 = .inr none ∧ r = false
       )
     ) else (
       o7627 = .inr (some (m7586, m7587, m7588, m7589, m7591, m7592, m7593, m7594, m7596, m7597, m7598, m7600, m7601, m7602, m7603, m7605))
     )
   ) else (
     o7627 = .inr (some (m7586, m7587, m7588, m7589, m7591, m7592, m7593, m7594, m7596, m7597, m7598, m7600, m7601, m7602, m7603, m7605))
   )
def lethelaw04_AesExact (script1 : List (Int × Int × (BitVec 8) × (BitVec 8) × (BitVec 64) × (Nat → BitVec 8) × (List Byte))) (r : Bool) : Prop :=
 ∃ script527 : Bool, ∃ m529 : Nat → BitVec 8, ∃ m530 : Nat → BitVec 8, ∃ m531 : Nat → BitVec 8, ∃ m532 : Nat → BitVec 8, ∃ m534 : List (Nat → BitVec 8), ∃ m535 : Nat → BitVec 8, ∃ m536 : Nat → BitVec 8, (
   ∃ x_542 : List Byte, lethelaw04_Room (List.replicate 32 0#8) x_542 ∧
   (0 ≤ 32 ∧ 32 ≤ x_542.length) ∧
   ∃ x_906 : List Byte, ∃ ok907 : Bool, ∃ m909 : Nat → BitVec 8, ∃ m910 : Nat → BitVec 8, ∃ m911 : Nat → BitVec 8, ∃ m912 : Nat → BitVec 8, ∃ m914 : List (Nat → BitVec 8), ∃ m915 : Nat → BitVec 8, ∃ m916 : Nat → BitVec 8, (
     ∃ t959 : Bool, ∃ m961 : Nat → BitVec 8, ∃ m962 : Nat → BitVec 8, ∃ m963 : Nat → BitVec 8, ∃ m964 : Nat → BitVec 8, ∃ m966 : List (Nat → BitVec 8), ∃ m967 : Nat → BitVec 8, ∃ m968 : Nat → BitVec 8, (
       ((∃ x_974 : Nat, aes_New (seg x_542 0 32) (.inl x_974) ∧
         False
       ) ∨ (∃ x_975 : Nat → BitVec 8, ∃ x_976 : Nat → BitVec 8, ∃ x_977 : Nat → BitVec 8, ∃ x_978 : Nat → BitVec 8, ∃ x_979 : Nat, aes_New (seg x_542 0 32) (.inr (x_975, x_976, x_977, x_978, x_979)) ∧
         ((letheref04_New (List.replicate 32 0#8) (.inl ()) ∧
           False
         ) ∨ (∃ x_994 : List (Nat → BitVec 8), ∃ x_995 : Nat → BitVec 8, ∃ x_996 : Nat → BitVec 8, letheref04_New (List.replicate 32 0#8) (.inr (x_994, x_995, x_996)) ∧
           if x_979 = 0 then (
             t959 = true ∧ m961 = x_975 ∧ m962 = x_976 ∧ m963 = x_977 ∧ m964 = x_978 ∧ m966 = x_994 ∧ m967 = x_995 ∧ m968 = x_996
           ) else (
             t959 = false ∧ m961 = x_975 ∧ m962 = x_976 ∧ m963 = x_977 ∧ m964 = x_978 ∧ m966 = x_994 ∧ m967 = x_995 ∧ m968 = x_996
           )
         ))
       ))
     ) ∧
     if t959 = true then (
       ∃ x_1014 : Bool, lethelaw04_Kept x_542 (List.replicate 32 0#8) x_1014 ∧
       x_906 = x_542 ∧ ok907 = x_1014 ∧ m909 = m961 ∧ m910 = m962 ∧ m911 = m963 ∧ m912 = m964 ∧ m914 = m966 ∧ m915 = m967 ∧ m916 = m968
     ) else (
       x_906 = x_542 ∧ ok907 = false ∧ m909 = m961 ∧ m910 = m962 ∧ m911 = m963 ∧ m912 = m964 ∧ m914 = m966 ∧ m915 = m967 ∧ m916 = m968
     )
   ) ∧
   Iter (lethelaw04_AesExact_l0 x_542) (x_906, 0) () ∧
   script527 = ok907 ∧ m529 = m909 ∧ m530 = m910 ∧ m531 = m911 ∧ m532 = m912 ∧ m534 = m914 ∧ m535 = m915 ∧ m536 = m916
 ) ∧
 if script527 = true then (
   ∃ script1574 : Bool, ∃ m1576 : Nat → BitVec 8, ∃ m1577 : Nat → BitVec 8, ∃ m1578 : Nat → BitVec 8, ∃ m1579 : Nat → BitVec 8, ∃ m1581 : List (Nat → BitVec 8), ∃ m1582 : Nat → BitVec 8, ∃ m1583 : Nat → BitVec 8, (
     ∃ x_1589 : List Byte, lethelaw04_Room (List.replicate 32 0#8) x_1589 ∧
     (0 ≤ 32 ∧ 32 ≤ x_1589.length) ∧
     ∃ x_1953 : List Byte, ∃ ok1954 : Bool, ∃ m1956 : Nat → BitVec 8, ∃ m1957 : Nat → BitVec 8, ∃ m1958 : Nat → BitVec 8, ∃ m1959 : Nat → BitVec 8, ∃ m1961 : List (Nat → BitVec 8), ∃ m1962 : Nat → BitVec 8, ∃ m1963 : Nat → BitVec 8, (
       ∃ t2006 : Bool, ∃ m2008 : Nat → BitVec 8, ∃ m2009 : Nat → BitVec 8, ∃ m2010 : Nat → BitVec 8, ∃ m2011 : Nat → BitVec 8, ∃ m2013 : List (Nat → BitVec 8), ∃ m2014 : Nat → BitVec 8, ∃ m2015 : Nat → BitVec 8, (
         ((∃ x_2021 : Nat, aes_New (seg x_1589 0 32) (.inl x_2021) ∧
           False
         ) ∨ (∃ x_2022 : Nat → BitVec 8, ∃ x_2023 : Nat → BitVec 8, ∃ x_2024 : Nat → BitVec 8, ∃ x_2025 : Nat → BitVec 8, ∃ x_2026 : Nat, aes_New (seg x_1589 0 32) (.inr (x_2022, x_2023, x_2024, x_2025, x_2026)) ∧
           ((letheref04_New (List.replicate 32 0#8) (.inl ()) ∧
             False
           ) ∨ (∃ x_2041 : List (Nat → BitVec 8), ∃ x_2042 : Nat → BitVec 8, ∃ x_2043 : Nat → BitVec 8, letheref04_New (List.replicate 32 0#8) (.inr (x_2041, x_2042, x_2043)) ∧
             if x_2026 = 0 then (
               t2006 = true ∧ m2008 = x_2022 ∧ m2009 = x_2023 ∧ m2010 = x_2024 ∧ m2011 = x_2025 ∧ m2013 = x_2041 ∧ m2014 = x_2042 ∧ m2015 = x_2043
             ) else (
               t2006 = false ∧ m2008 = x_2022 ∧ m2009 = x_2023 ∧ m2010 = x_2024 ∧ m2011 = x_2025 ∧ m2013 = x_2041 ∧ m2014 = x_2042 ∧ m2015 = x_2043
             )
           ))
         ))
       ) ∧
       if t2006 = true then (
         ∃ x_2061 : Bool, lethelaw04_Kept x_1589 (List.replicate 32 0#8) x_2061 ∧
         x_1953 = x_1589 ∧ ok1954 = x_2061 ∧ m1956 = m2008 ∧ m1957 = m2009 ∧ m1958 = m2010 ∧ m1959 = m2011 ∧ m1961 = m2013 ∧ m1962 = m2014 ∧ m1963 = m2015
       ) else (
         x_1953 = x_1589 ∧ ok1954 = false ∧ m1956 = m2008 ∧ m1957 = m2009 ∧ m1958 = m2010 ∧ m1959 = m2011 ∧ m1961 = m2013 ∧ m1962 = m2014 ∧ m1963 = m2015
       )
     ) ∧
     Iter (lethelaw04_AesExact_l1 x_1589) (x_1953, 0) () ∧
     script1574 = ok1954 ∧ m1576 = m1956 ∧ m1577 = m1957 ∧ m1578 = m1958 ∧ m1579 = m1959 ∧ m1581 = m1961 ∧ m1582 = m1962 ∧ m1583 = m1963
   ) ∧
   if script1574 = true then (
     ∃ x7627 : Option ((Nat → BitVec 8) × (Nat → BitVec 8) × (Nat → BitVec 8) × (Nat → BitVec 8) × (Nat → BitVec 8) × (Nat → BitVec 8) × (Nat → BitVec 8) × (Nat → BitVec 8) × (List (Nat → BitVec 8)) × (Nat → BitVec 8) × (Nat → BitVec 8) × (List (Nat → BitVec 8)) × (Nat → BitVec 8) × (Nat → BitVec 8) × (List (List Byte)) × (List (List Byte))), Iter (lethelaw04_AesExact_l2 script1 r) (0, m529, m530, m531, m532, m1576, m1577, m1578, m1579, m534, m535, m536, m1581, m1582, m1583, ([] : List (List Byte)), ([] : List (List Byte))) x7627 ∧ (∀ (m7608 : Nat → BitVec 8) (m7609 : Nat → BitVec 8) (m7610 : Nat → BitVec 8) (m7611 : Nat → BitVec 8) (m7613 : Nat → BitVec 8) (m7614 : Nat → BitVec 8) (m7615 : Nat → BitVec 8) (m7616 : Nat → BitVec 8) (m7618 : List (Nat → BitVec 8)) (m7619 : Nat → BitVec 8) (m7620 : Nat → BitVec 8) (m7622 : List (Nat → BitVec 8)) (m7623 : Nat → BitVec 8) (m7624 : Nat → BitVec 8) (m7625 : List (List Byte)) (m7626 : List (List Byte)), x7627 = some (m7608, m7609, m7610, m7611, m7613, m7614, m7615, m7616, m7618, m7619, m7620, m7622, m7623, m7624, m7625, m7626) →
     ∃ script10441 : Bool, ∃ m10442 : List (List Byte), ∃ m10443 : List (List Byte), (
       ∃ x_10449 : List Byte, lethelaw04_Room (List.replicate 17 0#8) x_10449 ∧
       (0 ≤ 17 ∧ 17 ≤ x_10449.length) ∧
       ∃ x_10523 : List Byte, aes_Cipher_Stream m7608 m7609 m7610 m7611 (fun _ => 0#8) (seg x_10449 0 17) x_10523 ∧
       ∃ x_10534 : List Byte, letheref04_Cipher_Hide m7618 m7619 m7620 (fun _ => 0#8) (List.replicate 17 0#8) x_10534 ∧
       ∃ x_10542 : Bool, lethelaw04_Eq x_10523 x_10534 x_10542 ∧
       ∃ x_10546 : List (List Byte), ∃ x_10547 : List (List Byte), lethelaw04_Book_Note_at4 m7625 m7626 x_10523 (x_10546, x_10547) ∧
       if x_10542 = true then (
         ∃ x_10565 : Bool, lethelaw04_Kept x_10449 (List.replicate 17 0#8) x_10565 ∧
         script10441 = x_10565 ∧ m10442 = x_10546 ∧ m10443 = x_10547
       ) else (
         script10441 = false ∧ m10442 = x_10546 ∧ m10443 = x_10547
       )
     ) ∧
     if script10441 = true then (
       ∃ script10627 : Bool, (
         ∃ x_10633 : List Byte, lethelaw04_Room ([] : List Byte) x_10633 ∧
         (0 ≤ 0 ∧ 0 ≤ x_10633.length) ∧
         ∃ x_10669 : Nat → BitVec 8, aes_Cipher_Decrypt m7613 m7614 m7615 m7616 (fun _ => 0#8) x_10669 ∧
         ∃ x_10673 : Nat → BitVec 8, letheref04_Cipher_Decrypt m7622 m7623 m7624 (fun _ => 0#8) x_10673 ∧
         if (eqB 16 x_10669 x_10673) = true then (
           ∃ x_10678 : Bool, lethelaw04_Kept x_10633 ([] : List Byte) x_10678 ∧
           script10627 = x_10678
         ) else (
           script10627 = false
         )
       ) ∧
       if script10627 = true then (
         ∃ x_10686 : Bool, lethelaw04_Book_Holds_at4 m10442 m10443 x_10686 ∧
         r = x_10686
       ) else (
         r = false
       )
     ) else (
       r = false
     )
     )
   ) else (
     r = false
   )
 ) else (
   r = false
 )
end Go.Proofs.Ythjkmhdgenmnoaa
