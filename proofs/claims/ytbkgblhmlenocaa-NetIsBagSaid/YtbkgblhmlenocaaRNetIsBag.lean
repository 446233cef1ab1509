/-
  RELATIONS of the package's functions, printed by this session's own program (auto.py).
-/
import Derived.Test.YtbkgblhmlenocaaEd
import Derived.Test.YtbkgblhmlenocaaRLaw23
import Derived.Test.YtbkgblhmlenocaaRNet
namespace Go.Proofs.Ytbkgblhmlenocaa
set_option linter.unusedSimpArgs false
set_option linter.unusedVariables false
set_option linter.unusedSectionVars false
open Go Go.LW

def lethelaw23_NetIsBag_l0 (script1 : List (Int × Int × Int × Int × (List Byte))) (x_7 : Int) (x_8 : Int) (r : Bool) (s : ((List (Int × (Int × Int × Int × (List Byte)))) × (List (Int × Int × Int × (List Byte) × Bool)) × Nat × Int)) (o419 : ((List (Int × (Int × Int × Int × (List Byte)))) × (List (Int × Int × Int × (List Byte) × Bool)) × Nat × Int) ⊕ (Option ((List (Int × (Int × Int × Int × (List Byte)))) × (List (Int × Int × Int × (List Byte) × Bool)) × Int))) : Prop :=
  match s with
  | (mp412, l_413, i_414, m415) =>
    if i_414 < script1.length then (
      if i_414 < 200 then (
        (i_414 < script1.length) ∧
        ((l_413.length + 1) < 9223372036854775808) ∧
        ((((l_413.length + 1) : Nat) : Int) ≠ 0) ∧
        ∃ here444 : Bool, (
          if ((max ((script1.getD i_414 ((0 : Int), (0 : Int), (0 : Int), (0 : Int), ([] : List Byte))).2.1) (w64 (-(w64 (((script1.getD i_414 ((0 : Int), (0 : Int), (0 : Int), (0 : Int), ([] : List Byte))).2.1) + 1))))).tmod (((l_413.length + 1) : Nat) : Int)) < ((l_413.length : Nat) : Int) then (
            (0 ≤ ((max ((script1.getD i_414 ((0 : Int), (0 : Int), (0 : Int), (0 : Int), ([] : List Byte))).2.1) (w64 (-(w64 (((script1.getD i_414 ((0 : Int), (0 : Int), (0 : Int), (0 : Int), ([] : List Byte))).2.1) + 1))))).tmod (((l_413.length + 1) : Nat) : Int)) ∧ ((max ((script1.getD i_414 ((0 : Int), (0 : Int), (0 : Int), (0 : Int), ([] : List Byte))).2.1) (w64 (-(w64 (((script1.getD i_414 ((0 : Int), (0 : Int), (0 : Int), (0 : Int), ([] : List Byte))).2.1) + 1))))).tmod (((l_413.length + 1) : Nat) : Int)) < l_413.length) ∧
            here444 = (l_413.getD (((max ((script1.getD i_414 ((0 : Int), (0 : Int), (0 : Int), (0 : Int), ([] : List Byte))).2.1) (w64 (-(w64 (((script1.getD i_414 ((0 : Int), (0 : Int), (0 : Int), (0 : Int), ([] : List Byte))).2.1) + 1))))).tmod (((l_413.length + 1) : Nat) : Int)).toNat) ((0 : Int), (0 : Int), (0 : Int), ([] : List Byte), false)).2.2.2.2
          ) else (
            here444 = false
          )
        ) ∧
        if (script1.getD i_414 ((0 : Int), (0 : Int), (0 : Int), (0 : Int), ([] : List Byte))).1 = 2 then (
          ∃ x_456 : Bool, ∃ x_457 : List (Int × (Int × Int × Int × (List Byte))), ∃ x_458 : List (Int × Int × Int × (List Byte) × Bool), lethelaw23_brought x_7 x_8 mp412 m415 l_413 ((max ((script1.getD i_414 ((0 : Int), (0 : Int), (0 : Int), (0 : Int), ([] : List Byte))).2.1) (w64 (-(w64 (((script1.getD i_414 ((0 : Int), (0 : Int), (0 : Int), (0 : Int), ([] : List Byte))).2.1) + 1))))).tmod (((l_413.length + 1) : Nat) : Int)) (x_456, x_457, x_458) ∧
          if x_456 = true then (
            o419 = .inl (x_457, x_458, (i_414 + 1), m415)
          ) else (
            o419 = .inr none ∧ r = false
          )
        ) else (
          if (script1.getD i_414 ((0 : Int), (0 : Int), (0 : Int), (0 : Int), ([] : List Byte))).1 = 3 then (
            ∃ x_479 : Nat, ∃ x_480 : List (Int × (Int × Int × Int × (List Byte))), net_Net_Drop x_7 x_8 mp412 m415 ((max ((script1.getD i_414 ((0 : Int), (0 : Int), (0 : Int), (0 : Int), ([] : List Byte))).2.1) (w64 (-(w64 (((script1.getD i_414 ((0 : Int), (0 : Int), (0 : Int), (0 : Int), ([] : List Byte))).2.1) + 1))))).tmod (((l_413.length + 1) : Nat) : Int)) (x_479, x_480) ∧
            if ((decide (x_479 = 0)) != here444) = true then (
              o419 = .inr none ∧ r = false
            ) else (
              if here444 = true then (
                (0 ≤ ((max ((script1.getD i_414 ((0 : Int), (0 : Int), (0 : Int), (0 : Int), ([] : List Byte))).2.1) (w64 (-(w64 (((script1.getD i_414 ((0 : Int), (0 : Int), (0 : Int), (0 : Int), ([] : List Byte))).2.1) + 1))))).tmod (((l_413.length + 1) : Nat) : Int)) ∧ ((max ((script1.getD i_414 ((0 : Int), (0 : Int), (0 : Int), (0 : Int), ([] : List Byte))).2.1) (w64 (-(w64 (((script1.getD i_414 ((0 : Int), (0 : Int), (0 : Int), (0 : Int), ([] : List Byte))).2.1) + 1))))).tmod (((l_413.length + 1) : Nat) : Int)) < l_413.length) ∧
                o419 = .inl (x_480, (l_413.set (((max ((script1.getD i_414 ((0 : Int), (0 : Int), (0 : Int), (0 : Int), ([] : List Byte))).2.1) (w64 (-(w64 (((script1.getD i_414 ((0 : Int), (0 : Int), (0 : Int), (0 : Int), ([] : List Byte))).2.1) + 1))))).tmod (((l_413.length + 1) : Nat) : Int)).toNat) ((l_413.getD (((max ((script1.getD i_414 ((0 : Int), (0 : Int), (0 : Int), (0 : Int), ([] : List Byte))).2.1) (w64 (-(w64 (((script1.getD i_414 ((0 : Int), (0 : Int), (0 : Int), (0 : Int), ([] : List Byte))).2.1) + 1))))).tmod (((l_413.length + 1) : Nat) : Int)).toNat) ((0 : Int), (0 : Int), (0 : Int), ([] : List Byte), false)).1, (l_413.getD (((max ((script1.getD i_414 ((0 : Int), (0 : Int), (0 : Int), (0 : Int), ([] : List Byte))).2.1) (w64 (-(w64 (((script1.getD i_414 ((0 : Int), (0 : Int), (0 : Int), (0 : Int), ([] : List Byte))).2.1) + 1))))).tmod (((l_413.length + 1) : Nat) : Int)).toNat) ((0 : Int), (0 : Int), (0 : Int), ([] : List Byte), false)).2.1, (l_413.getD (((max ((script1.getD i_414 ((0 : Int), (0 : Int), (0 : Int), (0 : Int), ([] : List Byte))).2.1) (w64 (-(w64 (((script1.getD i_414 ((0 : Int), (0 : Int), (0 : Int), (0 : Int), ([] : List Byte))).2.1) + 1))))).tmod (((l_413.length + 1) : Nat) : Int)).toNat) ((0 : Int), (0 : Int), (0 : Int), ([] : List Byte), false)).2.2.1, (l_413.getD (((max ((script1.getD i_414 ((0 : Int), (0 : Int), (0 : Int), (0 : Int), ([] : List Byte))).2.1) (w64 (-(w64 (((script1.getD i_414 ((0 : Int), (0 : Int), (0 : Int), (0 : Int), ([] : List Byte))).2.1) + 1))))).tmod (((l_413.length + 1) : Nat) : Int)).toNat) ((0 : Int), (0 : Int), (0 : Int), ([] : List Byte), false)).2.2.2.1, false)), (i_414 + 1), m415)
              ) else (
                o419 = .inl (x_480, l_413, (i_414 + 1), m415)
              )
            )
          ) else (
            if (script1.getD i_414 ((0 : Int), (0 : Int), (0 : Int), (0 : Int), ([] : List Byte))).1 = 4 then (
              ∃ x_505 : Int, ∃ x_506 : Nat, ∃ x_507 : Int, ∃ x_508 : List (Int × (Int × Int × Int × (List Byte))), net_Net_Copy x_7 x_8 mp412 m415 ((max ((script1.getD i_414 ((0 : Int), (0 : Int), (0 : Int), (0 : Int), ([] : List Byte))).2.1) (w64 (-(w64 (((script1.getD i_414 ((0 : Int), (0 : Int), (0 : Int), (0 : Int), ([] : List Byte))).2.1) + 1))))).tmod (((l_413.length + 1) : Nat) : Int)) (x_505, x_506, x_507, x_508) ∧
              ∃ ok526 : Bool, ∃ t523 : Bool, ∃ t524 : Bool, ∃ t525 : Bool, (
                if ((decide (x_506 = 0)) != here444) = true then (
                  ok526 = false ∧ o419 = .inr none ∧ r = false
                ) else (
                  if here444 = true then (
                    if x_505 ≠ ((l_413.length : Nat) : Int) then (
                      ok526 = false ∧ o419 = .inr none ∧ r = false
                    ) else (
                      ok526 = true ∧ t523 = true ∧ t524 = true ∧ t525 = (decide (x_505 ≠ ((l_413.length : Nat) : Int)))
                    )
                  ) else (
                    ok526 = true ∧ t523 = false ∧ t524 = false ∧ t525 = false
                  )
                )
              ) ∧
              (ok526 = true →
              if here444 = true then (
                (0 ≤ ((max ((script1.getD i_414 ((0 : Int), (0 : Int), (0 : Int), (0 : Int), ([] : List Byte))).2.1) (w64 (-(w64 (((script1.getD i_414 ((0 : Int), (0 : Int), (0 : Int), (0 : Int), ([] : List Byte))).2.1) + 1))))).tmod (((l_413.length + 1) : Nat) : Int)) ∧ ((max ((script1.getD i_414 ((0 : Int), (0 : Int), (0 : Int), (0 : Int), ([] : List Byte))).2.1) (w64 (-(w64 (((script1.getD i_414 ((0 : Int), (0 : Int), (0 : Int), (0 : Int), ([] : List Byte))).2.1) + 1))))).tmod (((l_413.length + 1) : Nat) : Int)) < l_413.length) ∧
                ((l_413.length + ([(x_505, (l_413.getD (((max ((script1.getD i_414 ((0 : Int), (0 : Int), (0 : Int), (0 : Int), ([] : List Byte))).2.1) (w64 (-(w64 (((script1.getD i_414 ((0 : Int), (0 : Int), (0 : Int), (0 : Int), ([] : List Byte))).2.1) + 1))))).tmod (((l_413.length + 1) : Nat) : Int)).toNat) ((0 : Int), (0 : Int), (0 : Int), ([] : List Byte), false)).2.1, (l_413.getD (((max ((script1.getD i_414 ((0 : Int), (0 : Int), (0 : Int), (0 : Int), ([] : List Byte))).2.1) (w64 (-(w64 (((script1.getD i_414 ((0 : Int), (0 : Int), (0 : Int), (0 : Int), ([] : List Byte))).2.1) + 1))))).tmod (((l_413.length + 1) : Nat) : Int)).toNat) ((0 : Int), (0 : Int), (0 : Int), ([] : List Byte), false)).2.2.1, ((l_413.getD (((max ((script1.getD i_414 ((0 : Int), (0 : Int), (0 : Int), (0 : Int), ([] : List Byte))).2.1) (w64 (-(w64 (((script1.getD i_414 ((0 : Int), (0 : Int), (0 : Int), (0 : Int), ([] : List Byte))).2.1) + 1))))).tmod (((l_413.length + 1) : Nat) : Int)).toNat) ((0 : Int), (0 : Int), (0 : Int), ([] : List Byte), false)).2.2.2.1), (l_413.getD (((max ((script1.getD i_414 ((0 : Int), (0 : Int), (0 : Int), (0 : Int), ([] : List Byte))).2.1) (w64 (-(w64 (((script1.getD i_414 ((0 : Int), (0 : Int), (0 : Int), (0 : Int), ([] : List Byte))).2.1) + 1))))).tmod (((l_413.length + 1) : Nat) : Int)).toNat) ((0 : Int), (0 : Int), (0 : Int), ([] : List Byte), false)).2.2.2.2)] : List (Int × Int × Int × (List Byte) × Bool)).length) * 56 ≤ 140737488355328 ∧ l_413.length + ([(x_505, (l_413.getD (((max ((script1.getD i_414 ((0 : Int), (0 : Int), (0 : Int), (0 : Int), ([] : List Byte))).2.1) (w64 (-(w64 (((script1.getD i_414 ((0 : Int), (0 : Int), (0 : Int), (0 : Int), ([] : List Byte))).2.1) + 1))))).tmod (((l_413.length + 1) : Nat) : Int)).toNat) ((0 : Int), (0 : Int), (0 : Int), ([] : List Byte), false)).2.1, (l_413.getD (((max ((script1.getD i_414 ((0 : Int), (0 : Int), (0 : Int), (0 : Int), ([] : List Byte))).2.1) (w64 (-(w64 (((script1.getD i_414 ((0 : Int), (0 : Int), (0 : Int), (0 : Int), ([] : List Byte))).2.1) + 1))))).tmod (((l_413.length + 1) : Nat) : Int)).toNat) ((0 : Int), (0 : Int), (0 : Int), ([] : List Byte), false)).2.2.1, ((l_413.getD (((max ((script1.getD i_414 ((0 : Int), (0 : Int), (0 : Int), (0 : Int), ([] : List Byte))).2.1) (w64 (-(w64 (((script1.getD i_414 ((0 : Int), (0 : Int), (0 : Int), (0 : Int), ([] : List Byte))).2.1) + 1))))).tmod (((l_413.length + 1) : Nat) : Int)).toNat) ((0 : Int), (0 : Int), (0 : Int), ([] : List Byte), false)).2.2.2.1), (l_413.getD (((max ((script1.getD i_414 ((0 : Int), (0 : Int), (0 : Int), (0 : Int), ([] : List Byte))).2.1) (w64 (-(w64 (((script1.getD i_414 ((0 : Int), (0 : Int), (0 : Int), (0 : Int), ([] : List Byte))).2.1) + 1))))).tmod (((l_413.length + 1) : Nat) : Int)).toNat) ((0 : Int), (0 : Int), (0 : Int), ([] : List Byte), false)).2.2.2.2)] : List (Int × Int × Int × (List Byte) × Bool)).length < 9223372036854775808) ∧
                o419 = .inl (x_508, (l_413 ++ ([(x_505, (l_413.getD (((max ((script1.getD i_414 ((0 : Int), (0 : Int), (0 : Int), (0 : Int), ([] : List Byte))).2.1) (w64 (-(w64 (((script1.getD i_414 ((0 : Int), (0 : Int), (0 : Int), (0 : Int), ([] : List Byte))).2.1) + 1))))).tmod (((l_413.length + 1) : Nat) : Int)).toNat) ((0 : Int), (0 : Int), (0 : Int), ([] : List Byte), false)).2.1, (l_413.getD (((max ((script1.getD i_414 ((0 : Int), (0 : Int), (0 : Int), (0 : Int), ([] : List Byte))).2.1) (w64 (-(w64 (((script1.getD i_414 ((0 : Int), (0 : Int), (0 : Int), (0 : Int), ([] : List Byte))).2.1) + 1))))).tmod (((l_413.length + 1) : Nat) : Int)).toNat) ((0 : Int), (0 : Int), (0 : Int), ([] : List Byte), false)).2.2.1, ((l_413.getD (((max ((script1.getD i_414 ((0 : Int), (0 : Int), (0 : Int), (0 : Int), ([] : List Byte))).2.1) (w64 (-(w64 (((script1.getD i_414 ((0 : Int), (0 : Int), (0 : Int), (0 : Int), ([] : List Byte))).2.1) + 1))))).tmod (((l_413.length + 1) : Nat) : Int)).toNat) ((0 : Int), (0 : Int), (0 : Int), ([] : List Byte), false)).2.2.2.1), (l_413.getD (((max ((script1.getD i_414 ((0 : Int), (0 : Int), (0 : Int), (0 : Int), ([] : List Byte))).2.1) (w64 (-(w64 (((script1.getD i_414 ((0 : Int), (0 : Int), (0 : Int), (0 : Int), ([] : List Byte))).2.1) + 1))))).tmod (((l_413.length + 1) : Nat) : Int)).toNat) ((0 : Int), (0 : Int), (0 : Int), ([] : List Byte), false)).2.2.2.2)] : List (Int × Int × Int × (List Byte) × Bool))), (i_414 + 1), x_507)
              ) else (
                o419 = .inl (x_508, l_413, (i_414 + 1), x_507)
              )
              )
            ) else (
              (0 + ((script1.getD i_414 ((0 : Int), (0 : Int), (0 : Int), (0 : Int), ([] : List Byte))).2.2.2.2).length ≤ 140737488355328) ∧
              (0 + ((script1.getD i_414 ((0 : Int), (0 : Int), (0 : Int), (0 : Int), ([] : List Byte))).2.2.2.2).length ≤ 140737488355328) ∧
              ∃ x_573 : Int, ∃ x_574 : Nat, ∃ x_575 : Int, ∃ x_576 : List (Int × (Int × Int × Int × (List Byte))), net_Net_Send x_7 x_8 mp412 m415 (1 + (((script1.getD i_414 ((0 : Int), (0 : Int), (0 : Int), (0 : Int), ([] : List Byte))).2.2.1) % 2)) (1 + (((script1.getD i_414 ((0 : Int), (0 : Int), (0 : Int), (0 : Int), ([] : List Byte))).2.2.2.1) % 2)) (([] : List Byte) ++ ((script1.getD i_414 ((0 : Int), (0 : Int), (0 : Int), (0 : Int), ([] : List Byte))).2.2.2.2)) (x_573, x_574, x_575, x_576) ∧
              if x_574 ≠ 0 then (
                o419 = .inr none ∧ r = false
              ) else (
                if x_573 ≠ ((l_413.length : Nat) : Int) then (
                  o419 = .inr none ∧ r = false
                ) else (
                  ((l_413.length + ([(((l_413.length : Nat) : Int), (1 + (((script1.getD i_414 ((0 : Int), (0 : Int), (0 : Int), (0 : Int), ([] : List Byte))).2.2.1) % 2)), (1 + (((script1.getD i_414 ((0 : Int), (0 : Int), (0 : Int), (0 : Int), ([] : List Byte))).2.2.2.1) % 2)), (([] : List Byte) ++ ((script1.getD i_414 ((0 : Int), (0 : Int), (0 : Int), (0 : Int), ([] : List Byte))).2.2.2.2)), true)] : List (Int × Int × Int × (List Byte) × Bool)).length) * 56 ≤ 140737488355328 ∧ l_413.length + ([(((l_413.length : Nat) : Int), (1 + (((script1.getD i_414 ((0 : Int), (0 : Int), (0 : Int), (0 : Int), ([] : List Byte))).2.2.1) % 2)), (1 + (((script1.getD i_414 ((0 : Int), (0 : Int), (0 : Int), (0 : Int), ([] : List Byte))).2.2.2.1) % 2)), (([] : List Byte) ++ ((script1.getD i_414 ((0 : Int), (0 : Int), (0 : Int), (0 : Int), ([] : List Byte))).2.2.2.2)), true)] : List (Int × Int × Int × (List Byte) × Bool)).length < 9223372036854775808) ∧
                  o419 = .inl (x_576, (l_413 ++ ([(((l_413.length : Nat) : Int), (1 + (((script1.getD i_414 ((0 : Int), (0 : Int), (0 : Int), (0 : Int), ([] : List Byte))).2.2.1) % 2)), (1 + (((script1.getD i_414 ((0 : Int), (0 : Int), (0 : Int), (0 : Int), ([] : List Byte))).2.2.2.1) % 2)), (([] : List Byte) ++ ((script1.getD i_414 ((0 : Int), (0 : Int), (0 : Int), (0 : Int), ([] : List Byte))).2.2.2.2)), true)] : List (Int × Int × Int × (List Byte) × Bool))), (i_414 + 1), x_575)
                )
              )
            )
          )
        )
      ) else (
        o419 = .inr (some (mp412, l_413, m415))
      )
    ) else (
      o419 = .inr (some (mp412, l_413, m415))
    )
def lethelaw23_NetIsBag_l1 (back2 : Bool) (x_7 : Int) (x_8 : Int) (m418 : Int) (r : Bool) (s : ((List (Int × (Int × Int × Int × (List Byte)))) × (List (Int × Int × Int × (List Byte) × Bool)) × Nat)) (o691 : ((List (Int × (Int × Int × Int × (List Byte)))) × (List (Int × Int × Int × (List Byte) × Bool)) × Nat) ⊕ (Option ((List (Int × (Int × Int × Int × (List Byte)))) × (List (Int × Int × Int × (List Byte) × Bool))))) : Prop :=
  match s with
  | (mp686, l_687, i_688) =>
    if i_688 < l_687.length then (
      ∃ k704 : Int, (
        if back2 = true then (
          (-9223372036854775808 ≤ (((l_687.length : Nat) : Int) - 1) ∧ (((l_687.length : Nat) : Int) - 1) ≤ 9223372036854775807) ∧
          (-9223372036854775808 ≤ ((((l_687.length : Nat) : Int) - 1) - ((i_688 : Nat) : Int)) ∧ ((((l_687.length : Nat) : Int) - 1) - ((i_688 : Nat) : Int)) ≤ 9223372036854775807) ∧
          k704 = ((((l_687.length : Nat) : Int) - 1) - ((i_688 : Nat) : Int))
        ) else (
          k704 = ((i_688 : Nat) : Int)
        )
      ) ∧
      ∃ x_714 : Bool, ∃ x_715 : List (Int × (Int × Int × Int × (List Byte))), ∃ x_716 : List (Int × Int × Int × (List Byte) × Bool), lethelaw23_brought x_7 x_8 mp686 m418 l_687 k704 (x_714, x_715, x_716) ∧
      if x_714 = true then (
        ((i_688 + 1) < 9223372036854775808) ∧
        o691 = .inl (x_715, x_716, (i_688 + 1))
      ) else (
        o691 = .inr none ∧ r = false
      )
    ) else (
      o691 = .inr (some (mp686, l_687))
    )
def lethelaw23_NetIsBag (script1 : List (Int × Int × Int × Int × (List Byte))) (back2 : Bool) (r : Bool) : Prop :=
  ((∃ x_6 : Nat, net_New 3 1000 (.inl x_6) ∧
    if x_6 ≠ 0 then (
      r = false
    ) else (
      r = false
    )
  ) ∨ (∃ x_7 : Int, ∃ x_8 : Int, ∃ x_9 : List (Int × (Int × Int × Int × (List Byte))), ∃ x_10 : Nat, ∃ x_11 : Nat, net_New 3 1000 (.inr (x_7, x_8, x_9, x_10, x_11)) ∧
    if x_11 ≠ 0 then (
      r = false
    ) else (
      ∃ x_44 : Int, ∃ x_45 : Nat, ∃ x_46 : Int, ∃ x_47 : List (Int × (Int × Int × Int × (List Byte))), net_Net_Send x_7 x_8 x_9 ((x_10 : Nat) : Int) 1 2 (dl 2 (lit ([97#8, 98#8] : List Byte))) (x_44, x_45, x_46, x_47) ∧
      if x_44 ≠ 0 then (
        r = false
      ) else (
        if x_45 ≠ 0 then (
          r = false
        ) else (
          ∃ x419 : Option ((List (Int × (Int × Int × Int × (List Byte)))) × (List (Int × Int × Int × (List Byte) × Bool)) × Int), Iter (lethelaw23_NetIsBag_l0 script1 x_7 x_8 r) (x_47, ([(0, 1, 2, (dl 2 (lit ([97#8, 98#8] : List Byte))), true)] : List (Int × Int × Int × (List Byte) × Bool)), 0, x_46) x419 ∧ (∀ (mp416 : List (Int × (Int × Int × Int × (List Byte)))) (l_417 : List (Int × Int × Int × (List Byte) × Bool)) (m418 : Int), x419 = some (mp416, l_417, m418) →
          ∃ x691 : Option ((List (Int × (Int × Int × Int × (List Byte)))) × (List (Int × Int × Int × (List Byte) × Bool))), Iter (lethelaw23_NetIsBag_l1 back2 x_7 x_8 m418 r) (mp416, l_417, 0) x691 ∧ (∀ (mp689 : List (Int × (Int × Int × Int × (List Byte)))) (l_690 : List (Int × Int × Int × (List Byte) × Bool)), x691 = some (mp689, l_690) →
          ∃ x_736 : List (Int × Int × Int × (List Byte)), net_Net_Flights x_7 x_8 mp689 m418 x_736 ∧
          if x_736.length = 0 then (
            ∃ x_750 : Int, net_Net_Next x_7 x_8 mp689 m418 x_750 ∧
            r = (decide (x_750 = ((l_690.length : Nat) : Int)))
          ) else (
            r = false
          )
          )
          )
        )
      )
    )
  ))
end Go.Proofs.Ytbkgblhmlenocaa
