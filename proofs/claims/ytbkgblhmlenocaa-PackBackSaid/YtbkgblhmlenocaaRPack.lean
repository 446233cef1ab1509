/-
  RELATIONS of the package's functions, printed by this session's own program (auto.py).
-/
import Derived.Test.YtbkgblhmlenocaaEb
import Derived.Test.YtbkgblhmlenocaaRBytes
import Derived.Test.YtbkgblhmlenocaaRCmp
import Derived.Test.YtbkgblhmlenocaaRWire
namespace Go.Proofs.Ytbkgblhmlenocaa
set_option linter.unusedSimpArgs false
set_option linter.unusedVariables false
set_option linter.unusedSectionVars false
open Go Go.LW

def pack_Compare (aTable1 : Int) (aKey2 : List Byte) (aValue3 : List Byte) (bTable4 : Int) (bKey5 : List Byte) (bValue6 : List Byte) (r : Int) : Prop :=
  ∃ x_13 : Int, cmp_Compare_int aTable1 bTable4 x_13 ∧
  ∃ x_16 : Int, bytes_Compare aKey2 bKey5 x_16 ∧
  ∃ x_21 : Int, cmp_Or_int ([x_13, x_16] : List Int) x_21 ∧
  r = x_21

def pack_Check (rTable1 : Int) (rKey2 : List Byte) (rValue3 : List Byte) (r : Nat) : Prop :=
  ∃ t12 : Bool, (
    if rTable1 < 0 then (
      t12 = true
    ) else (
      if 15 < rTable1 then (
        t12 = true
      ) else (
        if rKey2.length < 1 then (
          t12 = true
        ) else (
          if 64 < rKey2.length then (
            t12 = true
          ) else (
            t12 = (decide (900 < rValue3.length))
          )
        )
      )
    )
  ) ∧
  if t12 = true then (
    r = 110
  ) else (
    r = 0
  )

def pack_records_l0 (list1 : List (Int × (List Byte) × (List Byte))) (r : Nat) (t39 : Nat) (o40 : Nat ⊕ (Option Unit)) : Prop :=
  if t39 < list1.length then (
    (t39 < list1.length) ∧
    ∃ x_53 : Nat, pack_Check ((list1.getD t39 ((0 : Int), ([] : List Byte), ([] : List Byte))).1) ((list1.getD t39 ((0 : Int), ([] : List Byte), ([] : List Byte))).2.1) ((list1.getD t39 ((0 : Int), ([] : List Byte), ([] : List Byte))).2.2) x_53 ∧
    if x_53 ≠ 0 then (
      o40 = .inr none ∧ r = x_53
    ) else (
      ((t39 + 1) < 9223372036854775808) ∧
      o40 = .inl (t39 + 1)
    )
  ) else (
    o40 = .inr (some ())
  )
def pack_records (list1 : List (Int × (List Byte) × (List Byte))) (r : Nat) : Prop :=
  ∃ x40 : Option Unit, Iter (pack_records_l0 list1 r) 0 x40 ∧ (x40 = some () →
  r = 0
  )

def pack_sorted_l0 (list1 : List (Int × (List Byte) × (List Byte))) (r : Nat) (i_46 : Nat) (o47 : Nat ⊕ (Option Unit)) : Prop :=
  if i_46 < list1.length then (
    (-9223372036854775808 ≤ (((i_46 : Nat) : Int) - 1) ∧ (((i_46 : Nat) : Int) - 1) ≤ 9223372036854775807) ∧
    (0 ≤ (((i_46 : Nat) : Int) - 1) ∧ (((i_46 : Nat) : Int) - 1) < list1.length) ∧
    (i_46 < list1.length) ∧
    ∃ x_61 : Int, pack_Compare ((list1.getD ((((i_46 : Nat) : Int) - 1).toNat) ((0 : Int), ([] : List Byte), ([] : List Byte))).1) ((list1.getD ((((i_46 : Nat) : Int) - 1).toNat) ((0 : Int), ([] : List Byte), ([] : List Byte))).2.1) ((list1.getD ((((i_46 : Nat) : Int) - 1).toNat) ((0 : Int), ([] : List Byte), ([] : List Byte))).2.2) ((list1.getD i_46 ((0 : Int), ([] : List Byte), ([] : List Byte))).1) ((list1.getD i_46 ((0 : Int), ([] : List Byte), ([] : List Byte))).2.1) ((list1.getD i_46 ((0 : Int), ([] : List Byte), ([] : List Byte))).2.2) x_61 ∧
    if 0 ≤ x_61 then (
      o47 = .inr none ∧ r = 111
    ) else (
      ((i_46 + 1) < 9223372036854775808) ∧
      o47 = .inl (i_46 + 1)
    )
  ) else (
    o47 = .inr (some ())
  )
def pack_sorted (list1 : List (Int × (List Byte) × (List Byte))) (r : Nat) : Prop :=
  ∃ x_6 : Nat, pack_records list1 x_6 ∧
  if x_6 ≠ 0 then (
    r = x_6
  ) else (
    ∃ x47 : Option Unit, Iter (pack_sorted_l0 list1 r) 1 x47 ∧ (x47 = some () →
    r = 0
    )
  )

def pack_place_1 (aTable1 : Int) (aKey2 : List Byte) (aValue3 : List Byte) (bTable4 : Int) (bKey5 : List Byte) (bValue6 : List Byte) (r : Int) : Prop :=
  ∃ x_12 : Int, pack_Compare aTable1 aKey2 aValue3 bTable4 bKey5 bValue6 x_12 ∧
  r = x_12

def slices_BinarySearchFunc_api_Record_api_Record_api_Record__of_pack_place_1_l0 (x_1 : List (Int × (List Byte) × (List Byte))) (targetTable2 : Int) (targetKey3 : List Byte) (targetValue4 : List Byte) (s : (Nat × Nat)) (o45 : (Nat × Nat) ⊕ Nat) : Prop :=
  match s with
  | (i_42, j43) =>
    if i_42 < j43 then (
      ((i_42 + j43) < 9223372036854775808) ∧
      (((BitVec.ofNat 64 (i_42 + j43)) >>> 1).toNat < 9223372036854775808) ∧
      (((BitVec.ofNat 64 (i_42 + j43)) >>> 1).toNat < x_1.length) ∧
      ∃ x_58 : Int, pack_place_1 ((x_1.getD (((BitVec.ofNat 64 (i_42 + j43)) >>> 1).toNat) ((0 : Int), ([] : List Byte), ([] : List Byte))).1) ((x_1.getD (((BitVec.ofNat 64 (i_42 + j43)) >>> 1).toNat) ((0 : Int), ([] : List Byte), ([] : List Byte))).2.1) ((x_1.getD (((BitVec.ofNat 64 (i_42 + j43)) >>> 1).toNat) ((0 : Int), ([] : List Byte), ([] : List Byte))).2.2) targetTable2 targetKey3 targetValue4 x_58 ∧
      if x_58 < 0 then (
        (((((BitVec.ofNat 64 (i_42 + j43)) >>> 1).toNat) + 1) < 9223372036854775808) ∧
        o45 = .inl (((((BitVec.ofNat 64 (i_42 + j43)) >>> 1).toNat) + 1), j43)
      ) else (
        o45 = .inl (i_42, ((BitVec.ofNat 64 (i_42 + j43)) >>> 1).toNat)
      )
    ) else (
      o45 = .inr i_42
    )
def slices_BinarySearchFunc_api_Record_api_Record_api_Record__of_pack_place_1 (x_1 : List (Int × (List Byte) × (List Byte))) (targetTable2 : Int) (targetKey3 : List Byte) (targetValue4 : List Byte) (r : (Nat × Bool)) : Prop :=
  ∃ i_44 : Nat, Iter (slices_BinarySearchFunc_api_Record_api_Record_api_Record__of_pack_place_1_l0 x_1 targetTable2 targetKey3 targetValue4) (0, x_1.length) i_44 ∧
  if i_44 < x_1.length then (
    (i_44 < x_1.length) ∧
    ∃ x_69 : Int, pack_place_1 ((x_1.getD i_44 ((0 : Int), ([] : List Byte), ([] : List Byte))).1) ((x_1.getD i_44 ((0 : Int), ([] : List Byte), ([] : List Byte))).2.1) ((x_1.getD i_44 ((0 : Int), ([] : List Byte), ([] : List Byte))).2.2) targetTable2 targetKey3 targetValue4 x_69 ∧
    r = (i_44, (decide (x_69 = 0)))
  ) else (
    r = (i_44, false)
  )

def pack_place (list1 : List (Int × (List Byte) × (List Byte))) (rTable2 : Int) (rKey3 : List Byte) (rValue4 : List Byte) (r : (Nat × Bool)) : Prop :=
  ∃ x_9 : Nat, ∃ x_10 : Bool, slices_BinarySearchFunc_api_Record_api_Record_api_Record__of_pack_place_1 list1 rTable2 rKey3 rValue4 (x_9, x_10) ∧
  r = (x_9, x_10)

def pack_twin (rTable1 : Int) (rKey2 : List Byte) (rValue3 : List Byte) (r : (Int × (List Byte) × (List Byte))) : Prop :=
  ∃ x_12 : List Byte, wire_Join ([rKey2] : List (List Byte)) x_12 ∧
  ∃ x_22 : List Byte, wire_Join ([rValue3] : List (List Byte)) x_22 ∧
  ∃ x_33 : List Byte, wire_Join ([rKey2] : List (List Byte)) x_33 ∧
  ∃ x_41 : List Byte, wire_Join ([rValue3] : List (List Byte)) x_41 ∧
  r = (rTable1, x_33, x_41)

def pack_twins_l0 (list1 : List (Int × (List Byte) × (List Byte))) (s : ((List (Int × (List Byte) × (List Byte))) × Nat)) (o79 : ((List (Int × (List Byte) × (List Byte))) × Nat) ⊕ (List (Int × (List Byte) × (List Byte)))) : Prop :=
  match s with
  | (out75, t77) =>
    if t77 < list1.length then (
      (t77 < list1.length) ∧
      ∃ x_94 : Int, ∃ x_95 : List Byte, ∃ x_96 : List Byte, pack_twin ((list1.getD t77 ((0 : Int), ([] : List Byte), ([] : List Byte))).1) ((list1.getD t77 ((0 : Int), ([] : List Byte), ([] : List Byte))).2.1) ((list1.getD t77 ((0 : Int), ([] : List Byte), ([] : List Byte))).2.2) (x_94, x_95, x_96) ∧
      ((out75.length + ([(x_94, x_95, x_96)] : List (Int × (List Byte) × (List Byte))).length) * 56 ≤ 140737488355328 ∧ out75.length + ([(x_94, x_95, x_96)] : List (Int × (List Byte) × (List Byte))).length < 9223372036854775808) ∧
      ((t77 + 1) < 9223372036854775808) ∧
      o79 = .inl ((out75 ++ ([(x_94, x_95, x_96)] : List (Int × (List Byte) × (List Byte)))), (t77 + 1))
    ) else (
      o79 = .inr out75
    )
def pack_twins (list1 : List (Int × (List Byte) × (List Byte))) (r : (List (Int × (List Byte) × (List Byte)))) : Prop :=
  ∃ out78 : List (Int × (List Byte) × (List Byte)), Iter (pack_twins_l0 list1) (([] : List (Int × (List Byte) × (List Byte))), 0) out78 ∧
  r = out78

def pack_Put (list1 : List (Int × (List Byte) × (List Byte))) (rTable2 : Int) (rKey3 : List Byte) (rValue4 : List Byte) (r : ((List (Int × (List Byte) × (List Byte))) × Nat)) : Prop :=
  ∃ x_10 : Nat, pack_Check rTable2 rKey3 rValue4 x_10 ∧
  if x_10 ≠ 0 then (
    r = (([] : List (Int × (List Byte) × (List Byte))), x_10)
  ) else (
    ∃ x_20 : Nat, pack_sorted list1 x_20 ∧
    if x_20 ≠ 0 then (
      r = (([] : List (Int × (List Byte) × (List Byte))), x_20)
    ) else (
      ∃ x_29 : Nat, ∃ x_30 : Bool, pack_place list1 rTable2 rKey3 rValue4 (x_29, x_30) ∧
      (x_29 ≤ list1.length ∧ list1.length ≤ list1.length) ∧
      ∃ behind41 : List (Int × (List Byte) × (List Byte)), (
        if x_30 = true then (
          ((x_29 + 1) < 9223372036854775808) ∧
          ((x_29 + 1) ≤ list1.length ∧ list1.length ≤ list1.length) ∧
          behind41 = (sgl list1 (x_29 + 1) list1.length)
        ) else (
          behind41 = (sgl list1 x_29 list1.length)
        )
      ) ∧
      (0 ≤ x_29 ∧ x_29 ≤ list1.length) ∧
      ∃ x_54 : List (Int × (List Byte) × (List Byte)), pack_twins (sgl list1 0 x_29) x_54 ∧
      ∃ x_68 : Int, ∃ x_69 : List Byte, ∃ x_70 : List Byte, pack_twin rTable2 rKey3 rValue4 (x_68, x_69, x_70) ∧
      ((x_54.length + ([(x_68, x_69, x_70)] : List (Int × (List Byte) × (List Byte))).length) * 56 ≤ 140737488355328 ∧ x_54.length + ([(x_68, x_69, x_70)] : List (Int × (List Byte) × (List Byte))).length < 9223372036854775808) ∧
      ∃ x_92 : List (Int × (List Byte) × (List Byte)), pack_twins behind41 x_92 ∧
      (((x_54 ++ ([(x_68, x_69, x_70)] : List (Int × (List Byte) × (List Byte)))).length + x_92.length) * 56 ≤ 140737488355328 ∧ (x_54 ++ ([(x_68, x_69, x_70)] : List (Int × (List Byte) × (List Byte)))).length + x_92.length < 9223372036854775808) ∧
      r = (((x_54 ++ ([(x_68, x_69, x_70)] : List (Int × (List Byte) × (List Byte)))) ++ x_92), 0)
    )
  )

def pack_Find (list1 : List (Int × (List Byte) × (List Byte))) (table2 : Int) (key3 : List Byte) (r : (Nat × Bool)) : Prop :=
  ∃ x_8 : Nat, pack_sorted list1 x_8 ∧
  if x_8 ≠ 0 then (
    r = (0, false)
  ) else (
    ∃ x_14 : Nat, ∃ x_15 : Bool, pack_place list1 table2 key3 ([] : List Byte) (x_14, x_15) ∧
    r = (x_14, x_15)
  )

def pack_Delete (list1 : List (Int × (List Byte) × (List Byte))) (table2 : Int) (key3 : List Byte) (r : ((List (Int × (List Byte) × (List Byte))) × Nat)) : Prop :=
  ∃ x_8 : Nat, pack_sorted list1 x_8 ∧
  if x_8 ≠ 0 then (
    r = (([] : List (Int × (List Byte) × (List Byte))), x_8)
  ) else (
    ∃ x_16 : Nat, ∃ x_17 : Bool, pack_place list1 table2 key3 ([] : List Byte) (x_16, x_17) ∧
    if x_17 = true then (
      (0 ≤ x_16 ∧ x_16 ≤ list1.length) ∧
      ((x_16 + 1) < 9223372036854775808) ∧
      ((x_16 + 1) ≤ list1.length ∧ list1.length ≤ list1.length) ∧
      ∃ x_30 : List (Int × (List Byte) × (List Byte)), pack_twins (sgl list1 0 x_16) x_30 ∧
      ∃ x_43 : List (Int × (List Byte) × (List Byte)), pack_twins (sgl list1 (x_16 + 1) list1.length) x_43 ∧
      ((x_30.length + x_43.length) * 56 ≤ 140737488355328 ∧ x_30.length + x_43.length < 9223372036854775808) ∧
      r = ((x_30 ++ x_43), 0)
    ) else (
      r = (([] : List (Int × (List Byte) × (List Byte))), 122)
    )
  )

def pack_Size (rTable1 : Int) (rKey2 : List Byte) (rValue3 : List Byte) (r : Nat) : Prop :=
  ((4 + rKey2.length) < 9223372036854775808) ∧
  (((4 + rKey2.length) + rValue3.length) < 9223372036854775808) ∧
  r = ((4 + rKey2.length) + rValue3.length)

def pack_Pack_l0 (list1 : List (Int × (List Byte) × (List Byte))) (s : ((List Int) × Int × Nat)) (o123 : ((List Int) × Int × Nat) ⊕ (List Int)) : Prop :=
  match s with
  | (out118, left120, t121) =>
    if t121 < list1.length then (
      (t121 < list1.length) ∧
      ∃ out146 : List Int, ∃ left147 : Int, (
        ∃ x_151 : Nat, pack_Size ((list1.getD t121 ((0 : Int), ([] : List Byte), ([] : List Byte))).1) ((list1.getD t121 ((0 : Int), ([] : List Byte), ([] : List Byte))).2.1) ((list1.getD t121 ((0 : Int), ([] : List Byte), ([] : List Byte))).2.2) x_151 ∧
        if left120 < ((x_151 : Nat) : Int) then (
          ((out118.length + ([0] : List Int).length) * 8 ≤ 140737488355328 ∧ out118.length + ([0] : List Int).length < 9223372036854775808) ∧
          out146 = (out118 ++ ([0] : List Int)) ∧ left147 = 1008
        ) else (
          out146 = out118 ∧ left147 = left120
        )
      ) ∧
      (-9223372036854775808 ≤ (((out146.length : Nat) : Int) - 1) ∧ (((out146.length : Nat) : Int) - 1) ≤ 9223372036854775807) ∧
      (0 ≤ (((out146.length : Nat) : Int) - 1) ∧ (((out146.length : Nat) : Int) - 1) < out146.length) ∧
      (-9223372036854775808 ≤ ((out146.getD ((((out146.length : Nat) : Int) - 1).toNat) (0 : Int)) + 1) ∧ ((out146.getD ((((out146.length : Nat) : Int) - 1).toNat) (0 : Int)) + 1) ≤ 9223372036854775807) ∧
      (0 ≤ (((out146.length : Nat) : Int) - 1) ∧ (((out146.length : Nat) : Int) - 1) < out146.length) ∧
      ∃ x_170 : Nat, pack_Size ((list1.getD t121 ((0 : Int), ([] : List Byte), ([] : List Byte))).1) ((list1.getD t121 ((0 : Int), ([] : List Byte), ([] : List Byte))).2.1) ((list1.getD t121 ((0 : Int), ([] : List Byte), ([] : List Byte))).2.2) x_170 ∧
      (-9223372036854775808 ≤ (left147 - ((x_170 : Nat) : Int)) ∧ (left147 - ((x_170 : Nat) : Int)) ≤ 9223372036854775807) ∧
      ((t121 + 1) < 9223372036854775808) ∧
      o123 = .inl ((out146.set ((((out146.length : Nat) : Int) - 1).toNat) ((out146.getD ((((out146.length : Nat) : Int) - 1).toNat) (0 : Int)) + 1)), (left147 - ((x_170 : Nat) : Int)), (t121 + 1))
    ) else (
      o123 = .inr out118
    )
def pack_Pack (list1 : List (Int × (List Byte) × (List Byte))) (r : ((List Int) × Nat)) : Prop :=
  ∃ x_6 : Nat, pack_sorted list1 x_6 ∧
  if x_6 ≠ 0 then (
    r = (([] : List Int), x_6)
  ) else (
    ∃ out122 : List Int, Iter (pack_Pack_l0 list1) (([] : List Int), 0, 0) out122 ∧
    r = (out122, 0)
  )

def pack_Encode_l0 (list1 : List (Int × (List Byte) × (List Byte))) (r : ((List Byte) × Nat)) (s : ((List Byte) × Nat)) (o85 : ((List Byte) × Nat) ⊕ (Option (List Byte))) : Prop :=
  match s with
  | (out82, t83) =>
    if t83 < list1.length then (
      (t83 < list1.length) ∧
      ∃ x_99 : Nat, pack_Size ((list1.getD t83 ((0 : Int), ([] : List Byte), ([] : List Byte))).1) ((list1.getD t83 ((0 : Int), ([] : List Byte), ([] : List Byte))).2.1) ((list1.getD t83 ((0 : Int), ([] : List Byte), ([] : List Byte))).2.2) x_99 ∧
      ((out82.length + x_99) < 9223372036854775808) ∧
      if 1008 < (out82.length + x_99) then (
        o85 = .inr none ∧ r = (([] : List Byte), 5)
      ) else (
        (out82.length + ([(BitVec.ofInt 8 ((list1.getD t83 ((0 : Int), ([] : List Byte), ([] : List Byte))).1)), (BitVec.ofNat 8 (((list1.getD t83 ((0 : Int), ([] : List Byte), ([] : List Byte))).2.1).length))] : List Byte).length ≤ 140737488355328) ∧
        ((out82 ++ ([(BitVec.ofInt 8 ((list1.getD t83 ((0 : Int), ([] : List Byte), ([] : List Byte))).1)), (BitVec.ofNat 8 (((list1.getD t83 ((0 : Int), ([] : List Byte), ([] : List Byte))).2.1).length))] : List Byte)).length + ((list1.getD t83 ((0 : Int), ([] : List Byte), ([] : List Byte))).2.1).length ≤ 140737488355328) ∧
        (((list1.getD t83 ((0 : Int), ([] : List Byte), ([] : List Byte))).2.2).length < 9223372036854775808) ∧
        (((out82 ++ ([(BitVec.ofInt 8 ((list1.getD t83 ((0 : Int), ([] : List Byte), ([] : List Byte))).1)), (BitVec.ofNat 8 (((list1.getD t83 ((0 : Int), ([] : List Byte), ([] : List Byte))).2.1).length))] : List Byte)) ++ ((list1.getD t83 ((0 : Int), ([] : List Byte), ([] : List Byte))).2.1)).length + ([(BitVec.ofNat 8 ((((list1.getD t83 ((0 : Int), ([] : List Byte), ([] : List Byte))).2.2).length) / 2 ^ 8)), (BitVec.ofNat 8 (((list1.getD t83 ((0 : Int), ([] : List Byte), ([] : List Byte))).2.2).length))] : List Byte).length ≤ 140737488355328) ∧
        ((((out82 ++ ([(BitVec.ofInt 8 ((list1.getD t83 ((0 : Int), ([] : List Byte), ([] : List Byte))).1)), (BitVec.ofNat 8 (((list1.getD t83 ((0 : Int), ([] : List Byte), ([] : List Byte))).2.1).length))] : List Byte)) ++ ((list1.getD t83 ((0 : Int), ([] : List Byte), ([] : List Byte))).2.1)) ++ ([(BitVec.ofNat 8 ((((list1.getD t83 ((0 : Int), ([] : List Byte), ([] : List Byte))).2.2).length) / 2 ^ 8)), (BitVec.ofNat 8 (((list1.getD t83 ((0 : Int), ([] : List Byte), ([] : List Byte))).2.2).length))] : List Byte)).length + ((list1.getD t83 ((0 : Int), ([] : List Byte), ([] : List Byte))).2.2).length ≤ 140737488355328) ∧
        ((t83 + 1) < 9223372036854775808) ∧
        o85 = .inl (((((out82 ++ ([(BitVec.ofInt 8 ((list1.getD t83 ((0 : Int), ([] : List Byte), ([] : List Byte))).1)), (BitVec.ofNat 8 (((list1.getD t83 ((0 : Int), ([] : List Byte), ([] : List Byte))).2.1).length))] : List Byte)) ++ ((list1.getD t83 ((0 : Int), ([] : List Byte), ([] : List Byte))).2.1)) ++ ([(BitVec.ofNat 8 ((((list1.getD t83 ((0 : Int), ([] : List Byte), ([] : List Byte))).2.2).length) / 2 ^ 8)), (BitVec.ofNat 8 (((list1.getD t83 ((0 : Int), ([] : List Byte), ([] : List Byte))).2.2).length))] : List Byte)) ++ ((list1.getD t83 ((0 : Int), ([] : List Byte), ([] : List Byte))).2.2)), (t83 + 1))
      )
    ) else (
      o85 = .inr (some out82)
    )
def pack_Encode (list1 : List (Int × (List Byte) × (List Byte))) (r : ((List Byte) × Nat)) : Prop :=
  ∃ x_6 : Nat, pack_sorted list1 x_6 ∧
  if x_6 ≠ 0 then (
    r = (([] : List Byte), x_6)
  ) else (
    ∃ x85 : Option (List Byte), Iter (pack_Encode_l0 list1 r) ((List.replicate 0 0#8), 0) x85 ∧ (∀ (out84 : List Byte), x85 = some out84 →
    (out84.length ≤ 1008) ∧
    r = ((out84 ++ List.replicate (1008 - out84.length) 0#8), 0)
    )
  )

def pack_first (b1 : List Byte) (r : (Int × (List Byte) × (List Byte) × Nat)) : Prop :=
  if b1.length < 2 then (
    r = (0, ([] : List Byte), ([] : List Byte), 0)
  ) else (
    (1 < b1.length) ∧
    if b1.length < ((2 + ((lit b1 1).toNat)) + 2) then (
      r = (0, ([] : List Byte), ([] : List Byte), 0)
    ) else (
      ((2 + ((lit b1 1).toNat)) < b1.length) ∧
      (8 ≤ 64 ∧ ((lit b1 (2 + ((lit b1 1).toNat))).toNat) * 2 ^ 8 < 9223372036854775808) ∧
      ((((2 + ((lit b1 1).toNat)) + 2) + (((lit b1 (2 + ((lit b1 1).toNat))).toNat) * 2 ^ 8)) < 9223372036854775808) ∧
      (((2 + ((lit b1 1).toNat)) + 1) < b1.length) ∧
      (((((2 + ((lit b1 1).toNat)) + 2) + (((lit b1 (2 + ((lit b1 1).toNat))).toNat) * 2 ^ 8)) + ((lit b1 ((2 + ((lit b1 1).toNat)) + 1)).toNat)) < 9223372036854775808) ∧
      if b1.length < ((((2 + ((lit b1 1).toNat)) + 2) + (((lit b1 (2 + ((lit b1 1).toNat))).toNat) * 2 ^ 8)) + ((lit b1 ((2 + ((lit b1 1).toNat)) + 1)).toNat)) then (
        r = (0, ([] : List Byte), ([] : List Byte), 0)
      ) else (
        (0 < b1.length) ∧
        (2 ≤ (2 + ((lit b1 1).toNat)) ∧ (2 + ((lit b1 1).toNat)) ≤ b1.length) ∧
        (((2 + ((lit b1 1).toNat)) + 2) ≤ ((((2 + ((lit b1 1).toNat)) + 2) + (((lit b1 (2 + ((lit b1 1).toNat))).toNat) * 2 ^ 8)) + ((lit b1 ((2 + ((lit b1 1).toNat)) + 1)).toNat)) ∧ ((((2 + ((lit b1 1).toNat)) + 2) + (((lit b1 (2 + ((lit b1 1).toNat))).toNat) * 2 ^ 8)) + ((lit b1 ((2 + ((lit b1 1).toNat)) + 1)).toNat)) ≤ b1.length) ∧
        ∃ x_49 : Int, ∃ x_50 : List Byte, ∃ x_51 : List Byte, pack_twin (((lit b1 0).toNat : Nat) : Int) (seg b1 2 (2 + ((lit b1 1).toNat))) (seg b1 ((2 + ((lit b1 1).toNat)) + 2) ((((2 + ((lit b1 1).toNat)) + 2) + (((lit b1 (2 + ((lit b1 1).toNat))).toNat) * 2 ^ 8)) + ((lit b1 ((2 + ((lit b1 1).toNat)) + 1)).toNat))) (x_49, x_50, x_51) ∧
        ∃ x_91 : Nat, pack_Check x_49 x_50 x_51 x_91 ∧
        if x_91 ≠ 0 then (
          r = (0, ([] : List Byte), ([] : List Byte), 0)
        ) else (
          r = (x_49, x_50, x_51, ((((2 + ((lit b1 1).toNat)) + 2) + (((lit b1 (2 + ((lit b1 1).toNat))).toNat) * 2 ^ 8)) + ((lit b1 ((2 + ((lit b1 1).toNat)) + 1)).toNat)))
        )
      )
    )
  )

def pack_Decode_l0 (count1 : Int) (r : ((List (Int × (List Byte) × (List Byte))) × Nat)) (s : ((List Byte) × (List (Int × (List Byte) × (List Byte))) × Nat)) (o133 : ((List Byte) × (List (Int × (List Byte) × (List Byte))) × Nat) ⊕ (Option ((List Byte) × (List (Int × (List Byte) × (List Byte)))))) : Prop :=
  match s with
  | (content127, out128, t130) =>
    if ((t130 : Nat) : Int) < count1 then (
      ∃ x_143 : Int, ∃ x_144 : List Byte, ∃ x_145 : List Byte, ∃ x_146 : Nat, pack_first content127 (x_143, x_144, x_145, x_146) ∧
      if x_146 = 0 then (
        o133 = .inr none ∧ r = (([] : List (Int × (List Byte) × (List Byte))), 110)
      ) else (
        ∃ ok179 : Bool, (
          if 0 < out128.length then (
            (-9223372036854775808 ≤ (((out128.length : Nat) : Int) - 1) ∧ (((out128.length : Nat) : Int) - 1) ≤ 9223372036854775807) ∧
            (0 ≤ (((out128.length : Nat) : Int) - 1) ∧ (((out128.length : Nat) : Int) - 1) < out128.length) ∧
            ∃ x_187 : Int, pack_Compare ((out128.getD ((((out128.length : Nat) : Int) - 1).toNat) ((0 : Int), ([] : List Byte), ([] : List Byte))).1) ((out128.getD ((((out128.length : Nat) : Int) - 1).toNat) ((0 : Int), ([] : List Byte), ([] : List Byte))).2.1) ((out128.getD ((((out128.length : Nat) : Int) - 1).toNat) ((0 : Int), ([] : List Byte), ([] : List Byte))).2.2) x_143 x_144 x_145 x_187 ∧
            if 0 ≤ x_187 then (
              ok179 = false ∧ o133 = .inr none ∧ r = (([] : List (Int × (List Byte) × (List Byte))), 111)
            ) else (
              ok179 = true
            )
          ) else (
            ok179 = true
          )
        ) ∧
        (ok179 = true →
        ((out128.length + ([(x_143, x_144, x_145)] : List (Int × (List Byte) × (List Byte))).length) * 56 ≤ 140737488355328 ∧ out128.length + ([(x_143, x_144, x_145)] : List (Int × (List Byte) × (List Byte))).length < 9223372036854775808) ∧
        (x_146 ≤ content127.length ∧ content127.length ≤ content127.length) ∧
        ((t130 + 1) < 9223372036854775808) ∧
        o133 = .inl ((seg content127 x_146 content127.length), (out128 ++ ([(x_143, x_144, x_145)] : List (Int × (List Byte) × (List Byte)))), (t130 + 1))
        )
      )
    ) else (
      o133 = .inr (some (content127, out128))
    )
def pack_Decode (count1 : Int) (content2 : List Byte) (r : ((List (Int × (List Byte) × (List Byte))) × Nat)) : Prop :=
  if count1 < 0 then (
    r = (([] : List (Int × (List Byte) × (List Byte))), 4)
  ) else (
    if content2.length < 1008 then (
      r = (([] : List (Int × (List Byte) × (List Byte))), 10)
    ) else (
      if 1008 < content2.length then (
        r = (([] : List (Int × (List Byte) × (List Byte))), 11)
      ) else (
        ∃ x133 : Option ((List Byte) × (List (Int × (List Byte) × (List Byte)))), Iter (pack_Decode_l0 count1 r) (content2, ([] : List (Int × (List Byte) × (List Byte))), 0) x133 ∧ (∀ (content131 : List Byte) (out132 : List (Int × (List Byte) × (List Byte))), x133 = some (content131, out132) →
        ∃ x_210 : Bool, wire_Blank content131 x_210 ∧
        if x_210 = true then (
          r = (out132, 0)
        ) else (
          r = (([] : List (Int × (List Byte) × (List Byte))), 104)
        )
        )
      )
    )
  )
end Go.Proofs.Ytbkgblhmlenocaa
