/-
  RELATIONS of the package's functions, printed by this session's own program (auto.py).
-/
import Derived.Test.YtbkgblhmlenocaaEd
namespace Go.Proofs.Ytbkgblhmlenocaa
set_option linter.unusedSimpArgs false
set_option linter.unusedVariables false
set_option linter.unusedSectionVars false
open Go Go.LW

def letheref23_New (nodes1 : Int) (most2 : Int) (r : Nat ⊕ (Int × Int × (List (Int × Int × Int × (List Byte))) × Nat × Nat)) : Prop :=
  if nodes1 < 1 then (
    r = (.inl 2)
  ) else (
    if 4 < nodes1 then (
      r = (.inl 2)
    ) else (
      if most2 < 0 then (
        r = (.inl 2)
      ) else (
        if 4096 < most2 then (
          r = (.inl 2)
        ) else (
          r = (.inr (nodes1, most2, ([] : List (Int × Int × Int × (List Byte))), 0, 0))
        )
      )
    )
  )

def letheref23_Twin (fNumber1 : Int) (fFrom2 : Int) (fTo3 : Int) (fBytes4 : List Byte) (r : (Int × Int × Int × (List Byte))) : Prop :=
  (0 + fBytes4.length ≤ 140737488355328) ∧
  r = (fNumber1, fFrom2, fTo3, (([] : List Byte) ++ fBytes4))

def letheref23_Net_add (nNodes2 : Int) (nMost3 : Int) (nRow4 : List (Int × Int × Int × (List Byte))) (nNumber5 : Int) (fNumber6 : Int) (fFrom7 : Int) (fTo8 : Int) (fBytes9 : List Byte) (r : (Int × (List (Int × Int × Int × (List Byte))) × Int)) : Prop :=
  ∃ x_14 : Int, ∃ x_15 : Int, ∃ x_16 : Int, ∃ x_17 : List Byte, letheref23_Twin fNumber6 fFrom7 fTo8 fBytes9 (x_14, x_15, x_16, x_17) ∧
  ((nRow4.length + ([(nNumber5, x_15, x_16, x_17)] : List (Int × Int × Int × (List Byte))).length) * 48 ≤ 140737488355328 ∧ nRow4.length + ([(nNumber5, x_15, x_16, x_17)] : List (Int × Int × Int × (List Byte))).length < 9223372036854775808) ∧
  (-9223372036854775808 ≤ (nNumber5 + 1) ∧ (nNumber5 + 1) ≤ 9223372036854775807) ∧
  r = (nNumber5, (nRow4 ++ ([(nNumber5, x_15, x_16, x_17)] : List (Int × Int × Int × (List Byte)))), (nNumber5 + 1))

def letheref23_Net_Send (nNodes2 : Int) (nMost3 : Int) (nRow4 : List (Int × Int × Int × (List Byte))) (nNumber5 : Int) (from_6 : Int) (to7 : Int) (b8 : List Byte) (r : (Int × Nat × (List (Int × Int × Int × (List Byte))) × Int)) : Prop :=
  if from_6 < 1 then (
    r = (0, 240, nRow4, nNumber5)
  ) else (
    if nNodes2 < from_6 then (
      r = (0, 240, nRow4, nNumber5)
    ) else (
      if to7 < 1 then (
        r = (0, 240, nRow4, nNumber5)
      ) else (
        if nNodes2 < to7 then (
          r = (0, 240, nRow4, nNumber5)
        ) else (
          if nMost3 ≤ ((nRow4.length : Nat) : Int) then (
            r = (0, 231, nRow4, nNumber5)
          ) else (
            ∃ x_36 : Int, ∃ x_37 : List (Int × Int × Int × (List Byte)), ∃ x_38 : Int, letheref23_Net_add nNodes2 nMost3 nRow4 nNumber5 0 from_6 to7 b8 (x_36, x_37, x_38) ∧
            r = (x_36, 0, x_37, x_38)
          )
        )
      )
    )
  )

def letheref23_Net_find_l0 (nRow4 : List (Int × Int × Int × (List Byte))) (k6 : Int) (r : Int) (i_30 : Nat) (o31 : Nat ⊕ (Option Unit)) : Prop :=
  if i_30 < nRow4.length then (
    (i_30 < nRow4.length) ∧
    if (nRow4.getD i_30 ((0 : Int), (0 : Int), (0 : Int), ([] : List Byte))).1 = k6 then (
      o31 = .inr none ∧ r = ((i_30 : Nat) : Int)
    ) else (
      ((i_30 + 1) < 9223372036854775808) ∧
      o31 = .inl (i_30 + 1)
    )
  ) else (
    o31 = .inr (some ())
  )
def letheref23_Net_find (nNodes2 : Int) (nMost3 : Int) (nRow4 : List (Int × Int × Int × (List Byte))) (nNumber5 : Int) (k6 : Int) (r : Int) : Prop :=
  ∃ x31 : Option Unit, Iter (letheref23_Net_find_l0 nRow4 k6 r) 0 x31 ∧ (x31 = some () →
  r = (-1)
  )

def letheref23_Net_gone (nNodes2 : Int) (nMost3 : Int) (nRow4 : List (Int × Int × Int × (List Byte))) (nNumber5 : Int) (i_6 : Int) (r : (List (Int × Int × Int × (List Byte)))) : Prop :=
  (0 ≤ i_6) ∧
  (0 ≤ i_6.toNat ∧ i_6.toNat ≤ nRow4.length) ∧
  ((0 + (i_6.toNat - 0)) * 48 ≤ 140737488355328 ∧ 0 + (i_6.toNat - 0) < 9223372036854775808) ∧
  (-9223372036854775808 ≤ (i_6 + 1) ∧ (i_6 + 1) ≤ 9223372036854775807) ∧
  (0 ≤ (i_6 + 1)) ∧
  ((i_6 + 1).toNat ≤ nRow4.length ∧ nRow4.length ≤ nRow4.length) ∧
  (((([] : List (Int × Int × Int × (List Byte))) ++ (sgl nRow4 0 i_6.toNat)).length + (nRow4.length - (i_6 + 1).toNat)) * 48 ≤ 140737488355328 ∧ (([] : List (Int × Int × Int × (List Byte))) ++ (sgl nRow4 0 i_6.toNat)).length + (nRow4.length - (i_6 + 1).toNat) < 9223372036854775808) ∧
  r = ((([] : List (Int × Int × Int × (List Byte))) ++ (sgl nRow4 0 i_6.toNat)) ++ (sgl nRow4 ((i_6 + 1).toNat) nRow4.length))

def letheref23_Net_Deliver (nNodes2 : Int) (nMost3 : Int) (nRow4 : List (Int × Int × Int × (List Byte))) (nNumber5 : Int) (k6 : Int) (r : (Int × Int × Int × (List Byte) × Nat × (List (Int × Int × Int × (List Byte))))) : Prop :=
  ∃ x_12 : Int, letheref23_Net_find nNodes2 nMost3 nRow4 nNumber5 k6 x_12 ∧
  if x_12 < 0 then (
    r = (0, 0, 0, ([] : List Byte), 230, nRow4)
  ) else (
    (0 ≤ x_12 ∧ x_12 < nRow4.length) ∧
    ∃ x_25 : Int, ∃ x_26 : Int, ∃ x_27 : Int, ∃ x_28 : List Byte, letheref23_Twin ((nRow4.getD x_12.toNat ((0 : Int), (0 : Int), (0 : Int), ([] : List Byte))).1) ((nRow4.getD x_12.toNat ((0 : Int), (0 : Int), (0 : Int), ([] : List Byte))).2.1) ((nRow4.getD x_12.toNat ((0 : Int), (0 : Int), (0 : Int), ([] : List Byte))).2.2.1) ((nRow4.getD x_12.toNat ((0 : Int), (0 : Int), (0 : Int), ([] : List Byte))).2.2.2) (x_25, x_26, x_27, x_28) ∧
    ∃ x_42 : List (Int × Int × Int × (List Byte)), letheref23_Net_gone nNodes2 nMost3 nRow4 nNumber5 x_12 x_42 ∧
    r = (x_25, x_26, x_27, x_28, 0, x_42)
  )

def letheref23_Net_Drop (nNodes2 : Int) (nMost3 : Int) (nRow4 : List (Int × Int × Int × (List Byte))) (nNumber5 : Int) (k6 : Int) (r : (Nat × (List (Int × Int × Int × (List Byte))))) : Prop :=
  ∃ x_11 : Int, letheref23_Net_find nNodes2 nMost3 nRow4 nNumber5 k6 x_11 ∧
  if x_11 < 0 then (
    r = (230, nRow4)
  ) else (
    ∃ x_21 : List (Int × Int × Int × (List Byte)), letheref23_Net_gone nNodes2 nMost3 nRow4 nNumber5 x_11 x_21 ∧
    r = (0, x_21)
  )

def letheref23_Net_Copy (nNodes2 : Int) (nMost3 : Int) (nRow4 : List (Int × Int × Int × (List Byte))) (nNumber5 : Int) (k6 : Int) (r : (Int × Nat × (List (Int × Int × Int × (List Byte))) × Int)) : Prop :=
  ∃ x_11 : Int, letheref23_Net_find nNodes2 nMost3 nRow4 nNumber5 k6 x_11 ∧
  if x_11 < 0 then (
    r = (0, 230, nRow4, nNumber5)
  ) else (
    if nMost3 ≤ ((nRow4.length : Nat) : Int) then (
      r = (0, 231, nRow4, nNumber5)
    ) else (
      (0 ≤ x_11 ∧ x_11 < nRow4.length) ∧
      ∃ x_29 : Int, ∃ x_30 : List (Int × Int × Int × (List Byte)), ∃ x_31 : Int, letheref23_Net_add nNodes2 nMost3 nRow4 nNumber5 ((nRow4.getD x_11.toNat ((0 : Int), (0 : Int), (0 : Int), ([] : List Byte))).1) ((nRow4.getD x_11.toNat ((0 : Int), (0 : Int), (0 : Int), ([] : List Byte))).2.1) ((nRow4.getD x_11.toNat ((0 : Int), (0 : Int), (0 : Int), ([] : List Byte))).2.2.1) ((nRow4.getD x_11.toNat ((0 : Int), (0 : Int), (0 : Int), ([] : List Byte))).2.2.2) (x_29, x_30, x_31) ∧
      r = (x_29, 0, x_30, x_31)
    )
  )

def letheref23_Net_Flights_l0  (s : ((List (Int × Int × Int × (List Byte))) × Nat × (List (Int × Int × Int × (List Byte))))) (o71 : ((List (Int × Int × Int × (List Byte))) × Nat × (List (Int × Int × Int × (List Byte)))) ⊕ ((List (Int × Int × Int × (List Byte))) × (List (Int × Int × Int × (List Byte))))) : Prop :=
  match s with
  | (out65, i_67, m68) =>
    if i_67 < m68.length then (
      (i_67 < m68.length) ∧
      ∃ x_83 : Int, ∃ x_84 : Int, ∃ x_85 : Int, ∃ x_86 : List Byte, letheref23_Twin ((m68.getD i_67 ((0 : Int), (0 : Int), (0 : Int), ([] : List Byte))).1) ((m68.getD i_67 ((0 : Int), (0 : Int), (0 : Int), ([] : List Byte))).2.1) ((m68.getD i_67 ((0 : Int), (0 : Int), (0 : Int), ([] : List Byte))).2.2.1) ((m68.getD i_67 ((0 : Int), (0 : Int), (0 : Int), ([] : List Byte))).2.2.2) (x_83, x_84, x_85, x_86) ∧
      ((out65.length + ([(x_83, x_84, x_85, x_86)] : List (Int × Int × Int × (List Byte))).length) * 48 ≤ 140737488355328 ∧ out65.length + ([(x_83, x_84, x_85, x_86)] : List (Int × Int × Int × (List Byte))).length < 9223372036854775808) ∧
      ((i_67 + 1) < 9223372036854775808) ∧
      o71 = .inl ((out65 ++ ([(x_83, x_84, x_85, x_86)] : List (Int × Int × Int × (List Byte)))), (i_67 + 1), m68)
    ) else (
      o71 = .inr (out65, m68)
    )
def letheref23_Net_Flights (nNodes2 : Int) (nMost3 : Int) (nRow4 : List (Int × Int × Int × (List Byte))) (nNumber5 : Int) (r : ((List (Int × Int × Int × (List Byte))) × (List (Int × Int × Int × (List Byte))))) : Prop :=
  ∃ out69 : List (Int × Int × Int × (List Byte)), ∃ m70 : List (Int × Int × Int × (List Byte)), Iter (letheref23_Net_Flights_l0) (([] : List (Int × Int × Int × (List Byte))), 0, nRow4) (out69, m70) ∧
  r = (out69, m70)

def letheref23_Net_Next (nNodes2 : Int) (nMost3 : Int) (nRow4 : List (Int × Int × Int × (List Byte))) (nNumber5 : Int) (r : Int) : Prop :=
  r = nNumber5
end Go.Proofs.Ytbkgblhmlenocaa
