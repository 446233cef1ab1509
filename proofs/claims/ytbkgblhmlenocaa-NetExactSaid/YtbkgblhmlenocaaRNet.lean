/-
  RELATIONS of the package's functions, printed by this session's own program (auto.py).
-/
import Derived.Test.YtbkgblhmlenocaaEd
import Derived.Test.YtbkgblhmlenocaaRCmp
import Derived.Test.YtbkgblhmlenocaaRSlices
namespace Go.Proofs.Ytbkgblhmlenocaa
set_option linter.unusedSimpArgs false
set_option linter.unusedVariables false
set_option linter.unusedSectionVars false
open Go Go.LW

def net_New (nodes1 : Int) (most2 : Int) (r : Nat ⊕ (Int × Int × (List (Int × (Int × Int × Int × (List Byte)))) × Nat × Nat)) : Prop :=
  if nodes1 < 1 then (
    r = (.inl 2)
  ) else (
    if 4 < nodes1 then (
      r = (.inl 2)
    ) else (
      if most2 < 0 then (
        r = (.inl 2)
      ) else (
        if 4096 < most2 then (
          r = (.inl 2)
        ) else (
          r = (.inr (nodes1, most2, ([] : List (Int × (Int × Int × Int × (List Byte)))), 0, 0))
        )
      )
    )
  )

def net_Net_begin (nnodes2 : Int) (nmost3 : Int) (nflights4 : List (Int × (Int × Int × Int × (List Byte)))) (nnext5 : Int) (from_6 : Int) (to7 : Int) (b8 : List Byte) (r : (Int × Nat × Int × (List (Int × (Int × Int × Int × (List Byte)))))) : Prop :=
  if nmost3 ≤ ((nflights4.length : Nat) : Int) then (
    r = (0, 231, nnext5, nflights4)
  ) else (
    ∃ x_20 : List Byte, slices_Clone_byte_byte b8 x_20 ∧
    (-9223372036854775808 ≤ (nnext5 + 1) ∧ (nnext5 + 1) ≤ 9223372036854775807) ∧
    r = (nnext5, 0, (nnext5 + 1), (mset nnext5 (nnext5, from_6, to7, x_20) nflights4))
  )

def net_Net_Send (nnodes2 : Int) (nmost3 : Int) (nflights4 : List (Int × (Int × Int × Int × (List Byte)))) (nnext5 : Int) (from_6 : Int) (to7 : Int) (b8 : List Byte) (r : (Int × Nat × Int × (List (Int × (Int × Int × Int × (List Byte)))))) : Prop :=
  if from_6 < 1 then (
    r = (0, 240, nnext5, nflights4)
  ) else (
    if nnodes2 < from_6 then (
      r = (0, 240, nnext5, nflights4)
    ) else (
      if to7 < 1 then (
        r = (0, 240, nnext5, nflights4)
      ) else (
        if nnodes2 < to7 then (
          r = (0, 240, nnext5, nflights4)
        ) else (
          ∃ x_31 : Int, ∃ x_32 : Nat, ∃ x_33 : Int, ∃ x_34 : List (Int × (Int × Int × Int × (List Byte))), net_Net_begin nnodes2 nmost3 nflights4 nnext5 from_6 to7 b8 (x_31, x_32, x_33, x_34) ∧
          r = (x_31, x_32, x_33, x_34)
        )
      )
    )
  )

def net_Net_Deliver (nnodes2 : Int) (nmost3 : Int) (nflights4 : List (Int × (Int × Int × Int × (List Byte)))) (nnext5 : Int) (k6 : Int) (r : (Int × Int × Int × (List Byte) × Nat × (List (Int × (Int × Int × Int × (List Byte)))))) : Prop :=
  if (mget k6 nflights4).isSome = true then (
    r = (((mget k6 nflights4).getD ((0 : Int), (0 : Int), (0 : Int), ([] : List Byte))).1, ((mget k6 nflights4).getD ((0 : Int), (0 : Int), (0 : Int), ([] : List Byte))).2.1, ((mget k6 nflights4).getD ((0 : Int), (0 : Int), (0 : Int), ([] : List Byte))).2.2.1, (((mget k6 nflights4).getD ((0 : Int), (0 : Int), (0 : Int), ([] : List Byte))).2.2.2), 0, (mdel k6 nflights4))
  ) else (
    r = (0, 0, 0, ([] : List Byte), 230, nflights4)
  )

def net_Net_Drop (nnodes2 : Int) (nmost3 : Int) (nflights4 : List (Int × (Int × Int × Int × (List Byte)))) (nnext5 : Int) (k6 : Int) (r : (Nat × (List (Int × (Int × Int × Int × (List Byte)))))) : Prop :=
  ∃ x_10 : Int, ∃ x_11 : Int, ∃ x_12 : Int, ∃ x_13 : List Byte, ∃ x_14 : Nat, ∃ x_15 : List (Int × (Int × Int × Int × (List Byte))), net_Net_Deliver nnodes2 nmost3 nflights4 nnext5 k6 (x_10, x_11, x_12, x_13, x_14, x_15) ∧
  r = (x_14, x_15)

def net_Net_Copy (nnodes2 : Int) (nmost3 : Int) (nflights4 : List (Int × (Int × Int × Int × (List Byte)))) (nnext5 : Int) (k6 : Int) (r : (Int × Nat × Int × (List (Int × (Int × Int × Int × (List Byte)))))) : Prop :=
  if (mget k6 nflights4).isSome = true then (
    ∃ x_18 : Int, ∃ x_19 : Nat, ∃ x_20 : Int, ∃ x_21 : List (Int × (Int × Int × Int × (List Byte))), net_Net_begin nnodes2 nmost3 nflights4 nnext5 (((mget k6 nflights4).getD ((0 : Int), (0 : Int), (0 : Int), ([] : List Byte))).2.1) (((mget k6 nflights4).getD ((0 : Int), (0 : Int), (0 : Int), ([] : List Byte))).2.2.1) (((mget k6 nflights4).getD ((0 : Int), (0 : Int), (0 : Int), ([] : List Byte))).2.2.2) (x_18, x_19, x_20, x_21) ∧
    r = (x_18, x_19, x_20, x_21)
  ) else (
    r = (0, 230, nnext5, nflights4)
  )

def net_Net_Flights_1 (aNumber1 : Int) (aFrom2 : Int) (aTo3 : Int) (aBytes4 : List Byte) (bNumber5 : Int) (bFrom6 : Int) (bTo7 : Int) (bBytes8 : List Byte) (r : Int) : Prop :=
  ∃ x_14 : Int, cmp_Compare_int aNumber1 bNumber5 x_14 ∧
  r = x_14

def net_Net_Flights_l0  (p65 : Int × (Int × Int × Int × (List Byte))) (s : (List (Int × Int × Int × (List Byte)))) (o65 : (List (Int × Int × Int × (List Byte)))) : Prop :=
  match p65, s with
  | (kx71, vx71), out63 =>
    (0 + (vx71.2.2.2).length ≤ 140737488355328) ∧
    ((out63.length + ([(vx71.1, vx71.2.1, vx71.2.2.1, (([] : List Byte) ++ (vx71.2.2.2)))] : List (Int × Int × Int × (List Byte))).length) * 48 ≤ 140737488355328 ∧ out63.length + ([(vx71.1, vx71.2.1, vx71.2.2.1, (([] : List Byte) ++ (vx71.2.2.2)))] : List (Int × Int × Int × (List Byte))).length < 9223372036854775808) ∧
    o65 = (out63 ++ ([(vx71.1, vx71.2.1, vx71.2.2.1, (([] : List Byte) ++ (vx71.2.2.2)))] : List (Int × Int × Int × (List Byte))))
def net_Net_Flights (nnodes2 : Int) (nmost3 : Int) (nflights4 : List (Int × (Int × Int × Int × (List Byte)))) (nnext5 : Int) (r : (List (Int × Int × Int × (List Byte)))) : Prop :=
  RangeR (net_Net_Flights_l0) (fun out63 => (
  (out63.length < 4611686018427387904) ∧
  ∃ cf101 : (Int × Int × Int × (List Byte)) → (Int × Int × Int × (List Byte)) → Int, (∀ x y, net_Net_Flights_1 x.1 x.2.1 x.2.2.1 x.2.2.2 y.1 y.2.1 y.2.2.1 y.2.2.2 (cf101 x y)) ∧ Sort.SWO (Proofs.ltOf cf101) ∧ ∀ so101 : List (Int × Int × Int × (List Byte)), so101.Perm out63 → so101.Pairwise (fun x y => ¬ cf101 y x < 0) →
  r = so101
  )) nflights4.length nflights4 ([] : List (Int × Int × Int × (List Byte)))

def net_Net_Next (nnodes2 : Int) (nmost3 : Int) (nflights4 : List (Int × (Int × Int × Int × (List Byte)))) (nnext5 : Int) (r : Int) : Prop :=
  r = nnext5
end Go.Proofs.Ytbkgblhmlenocaa
