/-
  RELATIONS of the package's functions, printed by this session's own program (auto.py).
-/
import Derived.Test.YtjdgbahjpdopbaaDoorEc
import Derived.Test.YtjdgbahjpdopbaaDoorShaM
import Derived.Test.YtjdgbahjpdopbaaDoorRKdf
import Derived.Test.YtjdgbahjpdopbaaDoorRRef03
namespace Go.Proofs.YtjdgbahjpdopbaaDoor
set_option linter.unusedSimpArgs false
set_option linter.unusedVariables false
set_option linter.unusedSectionVars false
open Go Go.LW

def lethelaw03_short (b1 : List Byte) (r : (List Byte)) : Prop :=
  if 400 < b1.length then (
    (0 ≤ 400 ∧ 400 ≤ b1.length) ∧
    r = (seg b1 0 400)
  ) else (
    r = b1
  )

def lethelaw03_Room (b1 : List Byte) (r : (List Byte)) : Prop :=
  (0 + b1.length ≤ 140737488355328) ∧
  ((([] : List Byte) ++ b1).length + ([209#8, 210#8, 211#8] : List Byte).length ≤ 140737488355328) ∧
  r = ((([] : List Byte) ++ b1) ++ ([209#8, 210#8, 211#8] : List Byte))

def lethelaw03_Eq (a1 : List Byte) (b2 : List Byte) (r : Bool) : Prop :=
  r = (decide (a1 = b2))

def lethelaw03_Book_Note_l0 (bLists2 : List (List Byte)) (l_6 : List Byte) (s : ((List Byte) × (List Byte) × Nat)) (o52 : ((List Byte) × (List Byte) × Nat) ⊕ ((List Byte) × (List Byte))) : Prop :=
  match s with
  | (l_46, want47, i_49) =>
    if i_49 < l_6.length then (
      ((((bLists2.length * 29) + 7) + i_49) < 9223372036854775808) ∧
      (i_49 < l_6.length) ∧
      (i_49 < l_6.length) ∧
      (want47.length + ([(lit (l_46.set i_49 (BitVec.ofNat 8 (((bLists2.length * 29) + 7) + i_49))) i_49)] : List Byte).length ≤ 140737488355328) ∧
      ((i_49 + 1) < 9223372036854775808) ∧
      o52 = .inl ((l_46.set i_49 (BitVec.ofNat 8 (((bLists2.length * 29) + 7) + i_49))), (want47 ++ ([(lit (l_46.set i_49 (BitVec.ofNat 8 (((bLists2.length * 29) + 7) + i_49))) i_49)] : List Byte)), (i_49 + 1))
    ) else (
      o52 = .inr (l_46, want47)
    )
def lethelaw03_Book_Note (bLists2 : List (List Byte)) (bWant3 : List (List Byte)) (bKeys4 : List (List (Nat → BitVec 8))) (bWantK5 : List (List (Nat → BitVec 8))) (l_6 : List Byte) (r : ((List (List Byte)) × (List (List Byte)) × (List (List (Nat → BitVec 8))) × (List (List (Nat → BitVec 8))))) : Prop :=
  ((bLists2.length * 29) < 9223372036854775808) ∧
  (((bLists2.length * 29) + 7) < 9223372036854775808) ∧
  ∃ l_50 : List Byte, ∃ want51 : List Byte, Iter (lethelaw03_Book_Note_l0 bLists2 l_6) (l_6, ([] : List Byte), 0) (l_50, want51) ∧
  ((((bLists2.length * 29) + 7) * 3) < 9223372036854775808) ∧
  (((((bLists2.length * 29) + 7) * 3) + 1) < 9223372036854775808) ∧
  (l_6.length + ([(BitVec.ofNat 8 ((((bLists2.length * 29) + 7) * 3) + 1)), (BitVec.ofNat 8 ((((bLists2.length * 29) + 7) * 3) + 1)), (BitVec.ofNat 8 ((((bLists2.length * 29) + 7) * 3) + 1))] : List Byte).length ≤ 140737488355328) ∧
  ((bLists2.length + ([l_50, (l_50 ++ ([(BitVec.ofNat 8 ((((bLists2.length * 29) + 7) * 3) + 1)), (BitVec.ofNat 8 ((((bLists2.length * 29) + 7) * 3) + 1)), (BitVec.ofNat 8 ((((bLists2.length * 29) + 7) * 3) + 1))] : List Byte))] : List (List Byte)).length) * 24 ≤ 140737488355328 ∧ bLists2.length + ([l_50, (l_50 ++ ([(BitVec.ofNat 8 ((((bLists2.length * 29) + 7) * 3) + 1)), (BitVec.ofNat 8 ((((bLists2.length * 29) + 7) * 3) + 1)), (BitVec.ofNat 8 ((((bLists2.length * 29) + 7) * 3) + 1))] : List Byte))] : List (List Byte)).length < 9223372036854775808) ∧
  (want51.length + ([(BitVec.ofNat 8 ((((bLists2.length * 29) + 7) * 3) + 1)), (BitVec.ofNat 8 ((((bLists2.length * 29) + 7) * 3) + 1)), (BitVec.ofNat 8 ((((bLists2.length * 29) + 7) * 3) + 1))] : List Byte).length ≤ 140737488355328) ∧
  ((bWant3.length + ([want51, (want51 ++ ([(BitVec.ofNat 8 ((((bLists2.length * 29) + 7) * 3) + 1)), (BitVec.ofNat 8 ((((bLists2.length * 29) + 7) * 3) + 1)), (BitVec.ofNat 8 ((((bLists2.length * 29) + 7) * 3) + 1))] : List Byte))] : List (List Byte)).length) * 24 ≤ 140737488355328 ∧ bWant3.length + ([want51, (want51 ++ ([(BitVec.ofNat 8 ((((bLists2.length * 29) + 7) * 3) + 1)), (BitVec.ofNat 8 ((((bLists2.length * 29) + 7) * 3) + 1)), (BitVec.ofNat 8 ((((bLists2.length * 29) + 7) * 3) + 1))] : List Byte))] : List (List Byte)).length < 9223372036854775808) ∧
  r = ((bLists2 ++ ([l_50, (l_50 ++ ([(BitVec.ofNat 8 ((((bLists2.length * 29) + 7) * 3) + 1)), (BitVec.ofNat 8 ((((bLists2.length * 29) + 7) * 3) + 1)), (BitVec.ofNat 8 ((((bLists2.length * 29) + 7) * 3) + 1))] : List Byte))] : List (List Byte))), (bWant3 ++ ([want51, (want51 ++ ([(BitVec.ofNat 8 ((((bLists2.length * 29) + 7) * 3) + 1)), (BitVec.ofNat 8 ((((bLists2.length * 29) + 7) * 3) + 1)), (BitVec.ofNat 8 ((((bLists2.length * 29) + 7) * 3) + 1))] : List Byte))] : List (List Byte))), bKeys4, bWantK5)

def lethelaw03_Book_lists (bLists2 : List (List Byte)) (bWant3 : List (List Byte)) (bKeys4 : List (List (Nat → BitVec 8))) (bWantK5 : List (List (Nat → BitVec 8))) (oKind6 : Int) (oKey7 : List Byte) (oA8 : List Byte) (oB9 : List Byte) (oN10 : Int) (key11 : List Byte) (x_12 : List Byte) (y13 : List Byte) (r : (Bool × (List (List Byte)) × (List (List Byte)) × (List (List (Nat → BitVec 8))) × (List (List (Nat → BitVec 8))))) : Prop :=
  ∃ l_73 : List Byte, ∃ m74 : List Byte, ∃ e_75 : Nat, ∃ f76 : Nat, (
    if oKind6 = 3 then (
      ∃ x_82 : List Byte, ∃ x_83 : Nat, kdf_Expand key11 x_12 oN10 (x_82, x_83) ∧
      ((∃ x_91 : List Byte, ∃ x_92 : Nat, letheref03_Expand key11 x_12 oN10 (.inl (x_91, x_92)) ∧
        l_73 = x_82 ∧ m74 = x_91 ∧ e_75 = x_83 ∧ f76 = x_92
      ) ∨ (∃ x_93 : List Byte, ∃ x_94 : Nat, letheref03_Expand key11 x_12 oN10 (.inr (x_93, x_94)) ∧
        l_73 = x_82 ∧ m74 = x_93 ∧ e_75 = x_83 ∧ f76 = x_94
      ))
    ) else (
      ∃ x_110 : List Byte, ∃ x_111 : Nat, kdf_Derive key11 x_12 y13 oN10 (x_110, x_111) ∧
      ((∃ x_119 : List Byte, ∃ x_120 : Nat, letheref03_Derive key11 x_12 y13 oN10 (.inl (x_119, x_120)) ∧
        l_73 = x_110 ∧ m74 = x_119 ∧ e_75 = x_111 ∧ f76 = x_120
      ) ∨ (∃ x_121 : List Byte, ∃ x_122 : Nat, letheref03_Derive key11 x_12 y13 oN10 (.inr (x_121, x_122)) ∧
        l_73 = x_110 ∧ m74 = x_121 ∧ e_75 = x_111 ∧ f76 = x_122
      ))
    )
  ) ∧
  ∃ l_142 : List Byte, ∃ ok143 : Bool, (
    if e_75 = f76 then (
      ∃ x_147 : Bool, lethelaw03_Eq l_73 m74 x_147 ∧
      l_142 = l_73 ∧ ok143 = x_147
    ) else (
      l_142 = l_73 ∧ ok143 = false
    )
  ) ∧
  ∃ x_155 : List (List Byte), ∃ x_156 : List (List Byte), ∃ x_157 : List (List (Nat → BitVec 8)), ∃ x_158 : List (List (Nat → BitVec 8)), lethelaw03_Book_Note bLists2 bWant3 bKeys4 bWantK5 l_142 (x_155, x_156, x_157, x_158) ∧
  r = (ok143, x_155, x_156, x_157, x_158)

def lethelaw03_Book_Note32_l0 (bKeys4 : List (List (Nat → BitVec 8))) (s : ((List (Nat → BitVec 8)) × (List (Nat → BitVec 8)) × Nat)) (o48 : ((List (Nat → BitVec 8)) × (List (Nat → BitVec 8)) × Nat) ⊕ ((List (Nat → BitVec 8)) × (List (Nat → BitVec 8)))) : Prop :=
  match s with
  | (l_42, want43, i_45) =>
    if i_45 < l_42.length then (
      (i_45 < l_42.length) ∧
      ((want43.length + ([(upd (upd (fun _ => 0#8) 0 (BitVec.ofNat 8 (bKeys4.length + 1))) 1 (209#8))] : List (Nat → BitVec 8)).length) * 32 ≤ 140737488355328 ∧ want43.length + ([(upd (upd (fun _ => 0#8) 0 (BitVec.ofNat 8 (bKeys4.length + 1))) 1 (209#8))] : List (Nat → BitVec 8)).length < 9223372036854775808) ∧
      ((i_45 + 1) < 9223372036854775808) ∧
      o48 = .inl ((l_42.set i_45 (upd (upd (fun _ => 0#8) 0 (BitVec.ofNat 8 (bKeys4.length + 1))) 1 (209#8))), (want43 ++ ([(upd (upd (fun _ => 0#8) 0 (BitVec.ofNat 8 (bKeys4.length + 1))) 1 (209#8))] : List (Nat → BitVec 8))), (i_45 + 1))
    ) else (
      o48 = .inr (l_42, want43)
    )
def lethelaw03_Book_Note32 (bLists2 : List (List Byte)) (bWant3 : List (List Byte)) (bKeys4 : List (List (Nat → BitVec 8))) (bWantK5 : List (List (Nat → BitVec 8))) (l_6 : List (Nat → BitVec 8)) (r : ((List (List Byte)) × (List (List Byte)) × (List (List (Nat → BitVec 8))) × (List (List (Nat → BitVec 8))))) : Prop :=
  ((bKeys4.length + 1) < 9223372036854775808) ∧
  ∃ l_46 : List (Nat → BitVec 8), ∃ want47 : List (Nat → BitVec 8), Iter (lethelaw03_Book_Note32_l0 bKeys4) (l_6, ([] : List (Nat → BitVec 8)), 0) (l_46, want47) ∧
  ((l_46.length + ([(upd (upd (fun _ => 0#8) 0 (BitVec.ofNat 8 (bKeys4.length + 1))) 1 (209#8)), (upd (upd (fun _ => 0#8) 0 (BitVec.ofNat 8 (bKeys4.length + 1))) 1 (209#8))] : List (Nat → BitVec 8)).length) * 32 ≤ 140737488355328 ∧ l_46.length + ([(upd (upd (fun _ => 0#8) 0 (BitVec.ofNat 8 (bKeys4.length + 1))) 1 (209#8)), (upd (upd (fun _ => 0#8) 0 (BitVec.ofNat 8 (bKeys4.length + 1))) 1 (209#8))] : List (Nat → BitVec 8)).length < 9223372036854775808) ∧
  ((bKeys4.length + ([l_46, (l_46 ++ ([(upd (upd (fun _ => 0#8) 0 (BitVec.ofNat 8 (bKeys4.length + 1))) 1 (209#8)), (upd (upd (fun _ => 0#8) 0 (BitVec.ofNat 8 (bKeys4.length + 1))) 1 (209#8))] : List (Nat → BitVec 8)))] : List (List (Nat → BitVec 8))).length) * 24 ≤ 140737488355328 ∧ bKeys4.length + ([l_46, (l_46 ++ ([(upd (upd (fun _ => 0#8) 0 (BitVec.ofNat 8 (bKeys4.length + 1))) 1 (209#8)), (upd (upd (fun _ => 0#8) 0 (BitVec.ofNat 8 (bKeys4.length + 1))) 1 (209#8))] : List (Nat → BitVec 8)))] : List (List (Nat → BitVec 8))).length < 9223372036854775808) ∧
  ((want47.length + ([(upd (upd (fun _ => 0#8) 0 (BitVec.ofNat 8 (bKeys4.length + 1))) 1 (209#8)), (upd (upd (fun _ => 0#8) 0 (BitVec.ofNat 8 (bKeys4.length + 1))) 1 (209#8))] : List (Nat → BitVec 8)).length) * 32 ≤ 140737488355328 ∧ want47.length + ([(upd (upd (fun _ => 0#8) 0 (BitVec.ofNat 8 (bKeys4.length + 1))) 1 (209#8)), (upd (upd (fun _ => 0#8) 0 (BitVec.ofNat 8 (bKeys4.length + 1))) 1 (209#8))] : List (Nat → BitVec 8)).length < 9223372036854775808) ∧
  ((bWantK5.length + ([want47, (want47 ++ ([(upd (upd (fun _ => 0#8) 0 (BitVec.ofNat 8 (bKeys4.length + 1))) 1 (209#8)), (upd (upd (fun _ => 0#8) 0 (BitVec.ofNat 8 (bKeys4.length + 1))) 1 (209#8))] : List (Nat → BitVec 8)))] : List (List (Nat → BitVec 8))).length) * 24 ≤ 140737488355328 ∧ bWantK5.length + ([want47, (want47 ++ ([(upd (upd (fun _ => 0#8) 0 (BitVec.ofNat 8 (bKeys4.length + 1))) 1 (209#8)), (upd (upd (fun _ => 0#8) 0 (BitVec.ofNat 8 (bKeys4.length + 1))) 1 (209#8))] : List (Nat → BitVec 8)))] : List (List (Nat → BitVec 8))).length < 9223372036854775808) ∧
  r = (bLists2, bWant3, (bKeys4 ++ ([l_46, (l_46 ++ ([(upd (upd (fun _ => 0#8) 0 (BitVec.ofNat 8 (bKeys4.length + 1))) 1 (209#8)), (upd (upd (fun _ => 0#8) 0 (BitVec.ofNat 8 (bKeys4.length + 1))) 1 (209#8))] : List (Nat → BitVec 8)))] : List (List (Nat → BitVec 8)))), (bWantK5 ++ ([want47, (want47 ++ ([(upd (upd (fun _ => 0#8) 0 (BitVec.ofNat 8 (bKeys4.length + 1))) 1 (209#8)), (upd (upd (fun _ => 0#8) 0 (BitVec.ofNat 8 (bKeys4.length + 1))) 1 (209#8))] : List (Nat → BitVec 8)))] : List (List (Nat → BitVec 8)))))

def lethelaw03_Book_keys_l0 (bLists2 : List (List Byte)) (bWant3 : List (List Byte)) (bKeys4 : List (List (Nat → BitVec 8))) (bWantK5 : List (List (Nat → BitVec 8))) (x_13 : List (Nat → BitVec 8)) (x_23 : List (Nat → BitVec 8)) (r : (Bool × (List (List Byte)) × (List (List Byte)) × (List (List (Nat → BitVec 8))) × (List (List (Nat → BitVec 8))))) (i_72 : Nat) (o73 : Nat ⊕ (Option Unit)) : Prop :=
  if i_72 < x_23.length then (
    (i_72 < x_13.length) ∧
    (i_72 < x_23.length) ∧
    if (eqB 32 (x_13.getD i_72 (fun _ => 0#8)) (x_23.getD i_72 (fun _ => 0#8))) = true then (
      ((i_72 + 1) < 9223372036854775808) ∧
      o73 = .inl (i_72 + 1)
    ) else (
      o73 = .inr none ∧ r = (false, bLists2, bWant3, bKeys4, bWantK5)
    )
  ) else (
    o73 = .inr (some ())
  )
def lethelaw03_Book_keys (bLists2 : List (List Byte)) (bWant3 : List (List Byte)) (bKeys4 : List (List (Nat → BitVec 8))) (bWantK5 : List (List (Nat → BitVec 8))) (key6 : List Byte) (x_7 : List Byte) (y8 : List Byte) (n_9 : Int) (r : (Bool × (List (List Byte)) × (List (List Byte)) × (List (List (Nat → BitVec 8))) × (List (List (Nat → BitVec 8))))) : Prop :=
  ∃ x_13 : List (Nat → BitVec 8), ∃ x_14 : Nat, kdf_Keys key6 x_7 y8 n_9 (x_13, x_14) ∧
  ∃ x_23 : List (Nat → BitVec 8), ∃ x_24 : Nat, letheref03_Keys key6 x_7 y8 n_9 (x_23, x_24) ∧
  if x_14 ≠ x_24 then (
    r = (false, bLists2, bWant3, bKeys4, bWantK5)
  ) else (
    if x_13.length ≠ x_23.length then (
      r = (false, bLists2, bWant3, bKeys4, bWantK5)
    ) else (
      ∃ x73 : Option Unit, Iter (lethelaw03_Book_keys_l0 bLists2 bWant3 bKeys4 bWantK5 x_13 x_23 r) 0 x73 ∧ (x73 = some () →
      ∃ x_94 : List (List Byte), ∃ x_95 : List (List Byte), ∃ x_96 : List (List (Nat → BitVec 8)), ∃ x_97 : List (List (Nat → BitVec 8)), lethelaw03_Book_Note32 bLists2 bWant3 bKeys4 bWantK5 x_13 (x_94, x_95, x_96, x_97) ∧
      r = (true, x_94, x_95, x_96, x_97)
      )
    )
  )

def lethelaw03_Kept (room1 : List Byte) (b2 : List Byte) (r : Bool) : Prop :=
  ∃ x_6 : List Byte, lethelaw03_Room b2 x_6 ∧
  ∃ x_14 : Bool, lethelaw03_Eq room1 x_6 x_14 ∧
  r = x_14

def lethelaw03_Book_plays (bLists2 : List (List Byte)) (bWant3 : List (List Byte)) (bKeys4 : List (List (Nat → BitVec 8))) (bWantK5 : List (List (Nat → BitVec 8))) (oKind6 : Int) (oKey7 : List Byte) (oA8 : List Byte) (oB9 : List Byte) (oN10 : Int) (r : (Bool × (List (List Byte)) × (List (List Byte)) × (List (List (Nat → BitVec 8))) × (List (List (Nat → BitVec 8))))) : Prop :=
  ∃ x_16 : List Byte, lethelaw03_short oKey7 x_16 ∧
  ∃ x_22 : List Byte, lethelaw03_Room x_16 x_22 ∧
  ∃ x_30 : List Byte, lethelaw03_short oA8 x_30 ∧
  ∃ x_36 : List Byte, lethelaw03_Room x_30 x_36 ∧
  ∃ x_44 : List Byte, lethelaw03_short oB9 x_44 ∧
  ∃ x_50 : List Byte, lethelaw03_Room x_44 x_50 ∧
  (-9223372036854775808 ≤ (((x_22.length : Nat) : Int) - 3) ∧ (((x_22.length : Nat) : Int) - 3) ≤ 9223372036854775807) ∧
  (0 ≤ (((x_22.length : Nat) : Int) - 3)) ∧
  (0 ≤ (((x_22.length : Nat) : Int) - 3).toNat ∧ (((x_22.length : Nat) : Int) - 3).toNat ≤ x_22.length) ∧
  (-9223372036854775808 ≤ (((x_36.length : Nat) : Int) - 3) ∧ (((x_36.length : Nat) : Int) - 3) ≤ 9223372036854775807) ∧
  (0 ≤ (((x_36.length : Nat) : Int) - 3)) ∧
  (0 ≤ (((x_36.length : Nat) : Int) - 3).toNat ∧ (((x_36.length : Nat) : Int) - 3).toNat ≤ x_36.length) ∧
  (-9223372036854775808 ≤ (((x_50.length : Nat) : Int) - 3) ∧ (((x_50.length : Nat) : Int) - 3) ≤ 9223372036854775807) ∧
  (0 ≤ (((x_50.length : Nat) : Int) - 3)) ∧
  (0 ≤ (((x_50.length : Nat) : Int) - 3).toNat ∧ (((x_50.length : Nat) : Int) - 3).toNat ≤ x_50.length) ∧
  ∃ k223 : List Byte, ∃ x_224 : List Byte, ∃ y225 : List Byte, ∃ ok226 : Bool, ∃ m227 : List (List Byte), ∃ m228 : List (List Byte), ∃ m229 : List (List (Nat → BitVec 8)), ∃ m230 : List (List (Nat → BitVec 8)), (
    if oKind6 = 1 then (
      ∃ x_239 : Nat → BitVec 8, kdf_Mac (seg x_22 0 ((((x_22.length : Nat) : Int) - 3).toNat)) ([(seg x_36 0 ((((x_36.length : Nat) : Int) - 3).toNat)), (seg x_50 0 ((((x_50.length : Nat) : Int) - 3).toNat)), (seg x_36 0 ((((x_36.length : Nat) : Int) - 3).toNat))] : List (List Byte)) x_239 ∧
      ∃ x_242 : List Byte, lethelaw03_short oKey7 x_242 ∧
      ∃ x_248 : List Byte, lethelaw03_short oA8 x_248 ∧
      ∃ x_254 : List Byte, lethelaw03_short oB9 x_254 ∧
      ∃ x_260 : List Byte, lethelaw03_short oA8 x_260 ∧
      ∃ x_268 : List Byte, letheref03_Joined ([x_248, x_254, x_260] : List (List Byte)) x_268 ∧
      ∃ x_276 : Nat → BitVec 8, letheref03_Mac x_242 x_268 x_276 ∧
      k223 = x_22 ∧ x_224 = x_36 ∧ y225 = x_50 ∧ ok226 = (eqB 32 x_239 x_276) ∧ m227 = bLists2 ∧ m228 = bWant3 ∧ m229 = bKeys4 ∧ m230 = bWantK5
    ) else (
      if oKind6 = 2 then (
        ∃ x_284 : Nat → BitVec 8, kdf_Extract (seg x_22 0 ((((x_22.length : Nat) : Int) - 3).toNat)) (seg x_36 0 ((((x_36.length : Nat) : Int) - 3).toNat)) x_284 ∧
        ∃ x_287 : List Byte, lethelaw03_short oKey7 x_287 ∧
        ∃ x_293 : List Byte, lethelaw03_short oA8 x_293 ∧
        ∃ x_299 : Nat → BitVec 8, letheref03_Extract x_287 x_293 x_299 ∧
        k223 = x_22 ∧ x_224 = x_36 ∧ y225 = x_50 ∧ ok226 = (eqB 32 x_284 x_299) ∧ m227 = bLists2 ∧ m228 = bWant3 ∧ m229 = bKeys4 ∧ m230 = bWantK5
      ) else (
        ∃ t306 : Bool, (
          if oKind6 = 3 then (
            t306 = (decide (oKind6 = 3))
          ) else (
            t306 = (decide (oKind6 = 4))
          )
        ) ∧
        if t306 = true then (
          ∃ x_314 : Bool, ∃ x_315 : List (List Byte), ∃ x_316 : List (List Byte), ∃ x_317 : List (List (Nat → BitVec 8)), ∃ x_318 : List (List (Nat → BitVec 8)), lethelaw03_Book_lists bLists2 bWant3 bKeys4 bWantK5 oKind6 oKey7 oA8 oB9 oN10 (seg x_22 0 ((((x_22.length : Nat) : Int) - 3).toNat)) (seg x_36 0 ((((x_36.length : Nat) : Int) - 3).toNat)) (seg x_50 0 ((((x_50.length : Nat) : Int) - 3).toNat)) (x_314, x_315, x_316, x_317, x_318) ∧
          k223 = x_22 ∧ x_224 = x_36 ∧ y225 = x_50 ∧ ok226 = x_314 ∧ m227 = x_315 ∧ m228 = x_316 ∧ m229 = x_317 ∧ m230 = x_318
        ) else (
          if oKind6 = 5 then (
            ∃ x_354 : Bool, ∃ x_355 : List (List Byte), ∃ x_356 : List (List Byte), ∃ x_357 : List (List (Nat → BitVec 8)), ∃ x_358 : List (List (Nat → BitVec 8)), lethelaw03_Book_keys bLists2 bWant3 bKeys4 bWantK5 (seg x_22 0 ((((x_22.length : Nat) : Int) - 3).toNat)) (seg x_36 0 ((((x_36.length : Nat) : Int) - 3).toNat)) (seg x_50 0 ((((x_50.length : Nat) : Int) - 3).toNat)) oN10 (x_354, x_355, x_356, x_357, x_358) ∧
            k223 = x_22 ∧ x_224 = x_36 ∧ y225 = x_50 ∧ ok226 = x_354 ∧ m227 = x_355 ∧ m228 = x_356 ∧ m229 = x_357 ∧ m230 = x_358
          ) else (
            k223 = x_22 ∧ x_224 = x_36 ∧ y225 = x_50 ∧ ok226 = true ∧ m227 = bLists2 ∧ m228 = bWant3 ∧ m229 = bKeys4 ∧ m230 = bWantK5
          )
        )
      )
    )
  ) ∧
  if ok226 = true then (
    ∃ x_400 : List Byte, lethelaw03_short oKey7 x_400 ∧
    ∃ x_406 : Bool, lethelaw03_Kept k223 x_400 x_406 ∧
    if x_406 = true then (
      ∃ x_410 : List Byte, lethelaw03_short oA8 x_410 ∧
      ∃ x_416 : Bool, lethelaw03_Kept x_224 x_410 x_416 ∧
      if x_416 = true then (
        ∃ x_420 : List Byte, lethelaw03_short oB9 x_420 ∧
        ∃ x_426 : Bool, lethelaw03_Kept y225 x_420 x_426 ∧
        r = (x_426, m227, m228, m229, m230)
      ) else (
        r = (false, m227, m228, m229, m230)
      )
    ) else (
      r = (false, m227, m228, m229, m230)
    )
  ) else (
    r = (false, m227, m228, m229, m230)
  )

def lethelaw03_Book_Holds_l0 (bLists2 : List (List Byte)) (bWant3 : List (List Byte)) (r : Bool) (i_41 : Nat) (o42 : Nat ⊕ (Option Unit)) : Prop :=
  if i_41 < bLists2.length then (
    (i_41 < bLists2.length) ∧
    (i_41 < bWant3.length) ∧
    ∃ x_55 : Bool, lethelaw03_Eq ((bLists2.getD i_41 ([] : List Byte))) ((bWant3.getD i_41 ([] : List Byte))) x_55 ∧
    if x_55 = true then (
      ((i_41 + 1) < 9223372036854775808) ∧
      o42 = .inl (i_41 + 1)
    ) else (
      o42 = .inr none ∧ r = false
    )
  ) else (
    o42 = .inr (some ())
  )
def lethelaw03_Book_Holds_l2 (bKeys4 : List (List (Nat → BitVec 8))) (bWantK5 : List (List (Nat → BitVec 8))) (i_215 : Nat) (o216 : Nat ⊕ (Option Unit)) (r : Bool) (k270 : Nat) (o271 : Nat ⊕ (Option Unit)) : Prop :=
  (i_215 < bKeys4.length) ∧
  if k270 < ((bKeys4.getD i_215 ([] : List (Nat → BitVec 8)))).length then (
    (i_215 < bKeys4.length) ∧
    (k270 < ((bKeys4.getD i_215 ([] : List (Nat → BitVec 8)))).length) ∧
    (i_215 < bWantK5.length) ∧
    (k270 < ((bWantK5.getD i_215 ([] : List (Nat → BitVec 8)))).length) ∧
    if (eqB 32 (((bKeys4.getD i_215 ([] : List (Nat → BitVec 8)))).getD k270 (fun _ => 0#8)) (((bWantK5.getD i_215 ([] : List (Nat → BitVec 8)))).getD k270 (fun _ => 0#8))) = true then (
      ((k270 + 1) < 9223372036854775808) ∧
      o271 = .inl (k270 + 1)
    ) else (
      o271 = .inr none ∧ o216 = .inr none ∧ r = false
    )
  ) else (
    o271 = .inr (some ())
  )
def lethelaw03_Book_Holds_l1 (bKeys4 : List (List (Nat → BitVec 8))) (bWantK5 : List (List (Nat → BitVec 8))) (r : Bool) (i_215 : Nat) (o216 : Nat ⊕ (Option Unit)) : Prop :=
  if i_215 < bKeys4.length then (
    (i_215 < bKeys4.length) ∧
    (i_215 < bWantK5.length) ∧
    if ((bKeys4.getD i_215 ([] : List (Nat → BitVec 8)))).length ≠ ((bWantK5.getD i_215 ([] : List (Nat → BitVec 8)))).length then (
      o216 = .inr none ∧ r = false
    ) else (
      ∃ x271 : Option Unit, Iter (lethelaw03_Book_Holds_l2 bKeys4 bWantK5 i_215 o216 r) 0 x271 ∧ (x271 = some () →
      ((i_215 + 1) < 9223372036854775808) ∧
      o216 = .inl (i_215 + 1)
      )
    )
  ) else (
    o216 = .inr (some ())
  )
def lethelaw03_Book_Holds (bLists2 : List (List Byte)) (bWant3 : List (List Byte)) (bKeys4 : List (List (Nat → BitVec 8))) (bWantK5 : List (List (Nat → BitVec 8))) (r : Bool) : Prop :=
  ∃ x42 : Option Unit, Iter (lethelaw03_Book_Holds_l0 bLists2 bWant3 r) 0 x42 ∧ (x42 = some () →
  ∃ x216 : Option Unit, Iter (lethelaw03_Book_Holds_l1 bKeys4 bWantK5 r) 0 x216 ∧ (x216 = some () →
  r = true
  )
  )
end Go.Proofs.YtjdgbahjpdopbaaDoor
