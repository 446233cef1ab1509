/-
  RELATIONS of the package's functions, printed by this session's own program (auto.py).
-/
import Derived.Test.YtbkgblhmlenocaaEd
import Derived.Test.YtbkgblhmlenocaaRNet
namespace Go.Proofs.Ytbkgblhmlenocaa
set_option linter.unusedSimpArgs false
set_option linter.unusedVariables false
set_option linter.unusedSectionVars false
open Go Go.LW

def lethelaw23_same (aNumber1 : Int) (aFrom2 : Int) (aTo3 : Int) (aBytes4 : List Byte) (bNumber5 : Int) (bFrom6 : Int) (bTo7 : Int) (bBytes8 : List Byte) (r : Bool) : Prop :=
  if aNumber1 = bNumber5 then (
    if aFrom2 = bFrom6 then (
      if aTo3 = bTo7 then (
        r = (decide (aBytes4 = bBytes8))
      ) else (
        r = false
      )
    ) else (
      r = false
    )
  ) else (
    r = false
  )

def lethelaw23_brought (nnodes2 : Int) (nmost3 : Int) (nflights4 : List (Int × (Int × Int × Int × (List Byte)))) (nnext5 : Int) (l_6 : List (Int × Int × Int × (List Byte) × Bool)) (k7 : Int) (r : (Bool × (List (Int × (Int × Int × Int × (List Byte)))) × (List (Int × Int × Int × (List Byte) × Bool)))) : Prop :=
  ∃ x_11 : Int, ∃ x_12 : Int, ∃ x_13 : Int, ∃ x_14 : List Byte, ∃ x_15 : Nat, ∃ x_16 : List (Int × (Int × Int × Int × (List Byte))), net_Net_Deliver nnodes2 nmost3 nflights4 nnext5 k7 (x_11, x_12, x_13, x_14, x_15, x_16) ∧
  if ((l_6.length : Nat) : Int) ≤ k7 then (
    if x_15 = 230 then (
      ∃ x_49 : Bool, lethelaw23_same x_11 x_12 x_13 x_14 0 0 0 ([] : List Byte) x_49 ∧
      r = (x_49, x_16, l_6)
    ) else (
      r = (false, x_16, l_6)
    )
  ) else (
    (0 ≤ k7 ∧ k7 < l_6.length) ∧
    if (l_6.getD k7.toNat ((0 : Int), (0 : Int), (0 : Int), ([] : List Byte), false)).2.2.2.2 = true then (
      (0 ≤ k7 ∧ k7 < l_6.length) ∧
      ∃ x_62 : Int, ∃ x_63 : Int, ∃ x_64 : Int, ∃ x_65 : List Byte, ∃ x_66 : Nat, ∃ x_67 : List (Int × (Int × Int × Int × (List Byte))), net_Net_Deliver nnodes2 nmost3 x_16 nnext5 k7 (x_62, x_63, x_64, x_65, x_66, x_67) ∧
      if x_15 = 0 then (
        (0 ≤ k7 ∧ k7 < l_6.length) ∧
        ∃ x_86 : Bool, lethelaw23_same x_11 x_12 x_13 x_14 (((l_6.set k7.toNat ((l_6.getD k7.toNat ((0 : Int), (0 : Int), (0 : Int), ([] : List Byte), false)).1, (l_6.getD k7.toNat ((0 : Int), (0 : Int), (0 : Int), ([] : List Byte), false)).2.1, (l_6.getD k7.toNat ((0 : Int), (0 : Int), (0 : Int), ([] : List Byte), false)).2.2.1, (l_6.getD k7.toNat ((0 : Int), (0 : Int), (0 : Int), ([] : List Byte), false)).2.2.2.1, false)).getD k7.toNat ((0 : Int), (0 : Int), (0 : Int), ([] : List Byte), false)).1) (((l_6.set k7.toNat ((l_6.getD k7.toNat ((0 : Int), (0 : Int), (0 : Int), ([] : List Byte), false)).1, (l_6.getD k7.toNat ((0 : Int), (0 : Int), (0 : Int), ([] : List Byte), false)).2.1, (l_6.getD k7.toNat ((0 : Int), (0 : Int), (0 : Int), ([] : List Byte), false)).2.2.1, (l_6.getD k7.toNat ((0 : Int), (0 : Int), (0 : Int), ([] : List Byte), false)).2.2.2.1, false)).getD k7.toNat ((0 : Int), (0 : Int), (0 : Int), ([] : List Byte), false)).2.1) (((l_6.set k7.toNat ((l_6.getD k7.toNat ((0 : Int), (0 : Int), (0 : Int), ([] : List Byte), false)).1, (l_6.getD k7.toNat ((0 : Int), (0 : Int), (0 : Int), ([] : List Byte), false)).2.1, (l_6.getD k7.toNat ((0 : Int), (0 : Int), (0 : Int), ([] : List Byte), false)).2.2.1, (l_6.getD k7.toNat ((0 : Int), (0 : Int), (0 : Int), ([] : List Byte), false)).2.2.2.1, false)).getD k7.toNat ((0 : Int), (0 : Int), (0 : Int), ([] : List Byte), false)).2.2.1) (((l_6.set k7.toNat ((l_6.getD k7.toNat ((0 : Int), (0 : Int), (0 : Int), ([] : List Byte), false)).1, (l_6.getD k7.toNat ((0 : Int), (0 : Int), (0 : Int), ([] : List Byte), false)).2.1, (l_6.getD k7.toNat ((0 : Int), (0 : Int), (0 : Int), ([] : List Byte), false)).2.2.1, (l_6.getD k7.toNat ((0 : Int), (0 : Int), (0 : Int), ([] : List Byte), false)).2.2.2.1, false)).getD k7.toNat ((0 : Int), (0 : Int), (0 : Int), ([] : List Byte), false)).2.2.2.1) x_86 ∧
        if x_86 = true then (
          r = ((decide (x_66 = 230)), x_67, (l_6.set k7.toNat ((l_6.getD k7.toNat ((0 : Int), (0 : Int), (0 : Int), ([] : List Byte), false)).1, (l_6.getD k7.toNat ((0 : Int), (0 : Int), (0 : Int), ([] : List Byte), false)).2.1, (l_6.getD k7.toNat ((0 : Int), (0 : Int), (0 : Int), ([] : List Byte), false)).2.2.1, (l_6.getD k7.toNat ((0 : Int), (0 : Int), (0 : Int), ([] : List Byte), false)).2.2.2.1, false)))
        ) else (
          r = (false, x_67, (l_6.set k7.toNat ((l_6.getD k7.toNat ((0 : Int), (0 : Int), (0 : Int), ([] : List Byte), false)).1, (l_6.getD k7.toNat ((0 : Int), (0 : Int), (0 : Int), ([] : List Byte), false)).2.1, (l_6.getD k7.toNat ((0 : Int), (0 : Int), (0 : Int), ([] : List Byte), false)).2.2.1, (l_6.getD k7.toNat ((0 : Int), (0 : Int), (0 : Int), ([] : List Byte), false)).2.2.2.1, false)))
        )
      ) else (
        r = (false, x_67, (l_6.set k7.toNat ((l_6.getD k7.toNat ((0 : Int), (0 : Int), (0 : Int), ([] : List Byte), false)).1, (l_6.getD k7.toNat ((0 : Int), (0 : Int), (0 : Int), ([] : List Byte), false)).2.1, (l_6.getD k7.toNat ((0 : Int), (0 : Int), (0 : Int), ([] : List Byte), false)).2.2.1, (l_6.getD k7.toNat ((0 : Int), (0 : Int), (0 : Int), ([] : List Byte), false)).2.2.2.1, false)))
      )
    ) else (
      if x_15 = 230 then (
        ∃ x_95 : Bool, lethelaw23_same x_11 x_12 x_13 x_14 0 0 0 ([] : List Byte) x_95 ∧
        r = (x_95, x_16, l_6)
      ) else (
        r = (false, x_16, l_6)
      )
    )
  )
end Go.Proofs.Ytbkgblhmlenocaa
