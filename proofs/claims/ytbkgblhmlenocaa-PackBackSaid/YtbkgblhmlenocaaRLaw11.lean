/-
  RELATIONS of the package's functions, printed by this session's own program (auto.py).
-/
import Derived.Test.YtbkgblhmlenocaaEb
namespace Go.Proofs.Ytbkgblhmlenocaa
set_option linter.unusedSimpArgs false
set_option linter.unusedVariables false
set_option linter.unusedSectionVars false
open Go Go.LW

def lethelaw11_rest (n_1 : Int) (m2 : Int) (r : Int) : Prop :=
  (m2 ≠ 0) ∧
  (-9223372036854775808 ≤ ((n_1.tmod m2) + m2) ∧ ((n_1.tmod m2) + m2) ≤ 9223372036854775807) ∧
  (m2 ≠ 0) ∧
  r = (((n_1.tmod m2) + m2).tmod m2)

def lethelaw11_right (rTable1 : Int) (rKey2 : List Byte) (rValue3 : List Byte) (r : (Int × (List Byte) × (List Byte))) : Prop :=
  ∃ x_9 : Int, lethelaw11_rest rTable1 16 x_9 ∧
  ∃ m17 : List Byte, (
    if rKey2.length = 0 then (
      m17 = ([0#8] : List Byte)
    ) else (
      m17 = rKey2
    )
  ) ∧
  ∃ m39 : List Byte, (
    if 64 < m17.length then (
      (0 ≤ 64 ∧ 64 ≤ m17.length) ∧
      m39 = (seg m17 0 64)
    ) else (
      m39 = m17
    )
  ) ∧
  ∃ m53 : List Byte, (
    if 900 < rValue3.length then (
      (0 ≤ 900 ∧ 900 ≤ rValue3.length) ∧
      m53 = (seg rValue3 0 900)
    ) else (
      m53 = rValue3
    )
  ) ∧
  r = (x_9, m39, m53)

def lethelaw11_ahead (aTable1 : Int) (aKey2 : List Byte) (aValue3 : List Byte) (bTable4 : Int) (bKey5 : List Byte) (bValue6 : List Byte) (r : Bool) : Prop :=
  if aTable1 ≠ bTable4 then (
    r = (decide (aTable1 < bTable4))
  ) else (
    r = (decide (ltL aKey2 bKey5 = true))
  )

def lethelaw11_sorted_l1 (out321 : List (Int × (List Byte) × (List Byte))) (x_342 : Int) (x_343 : List Byte) (x_344 : List Byte) (s : ((List (Int × (List Byte) × (List Byte))) × Bool × Nat)) (o511 : ((List (Int × (List Byte) × (List Byte))) × Bool × Nat) ⊕ ((List (Int × (List Byte) × (List Byte))) × Bool)) : Prop :=
  match s with
  | (next505, done507, k508) =>
    if k508 < out321.length then (
      ∃ next533 : List (Int × (List Byte) × (List Byte)), ∃ done534 : Bool, (
        if done507 = true then (
          next533 = next505 ∧ done534 = done507
        ) else (
          (k508 < out321.length) ∧
          ∃ x_542 : Bool, lethelaw11_ahead ((out321.getD k508 ((0 : Int), ([] : List Byte), ([] : List Byte))).1) ((out321.getD k508 ((0 : Int), ([] : List Byte), ([] : List Byte))).2.1) ((out321.getD k508 ((0 : Int), ([] : List Byte), ([] : List Byte))).2.2) x_342 x_343 x_344 x_542 ∧
          if x_542 = true then (
            next533 = next505 ∧ done534 = done507
          ) else (
            ((next505.length + ([(x_342, x_343, x_344)] : List (Int × (List Byte) × (List Byte))).length) * 56 ≤ 140737488355328 ∧ next505.length + ([(x_342, x_343, x_344)] : List (Int × (List Byte) × (List Byte))).length < 9223372036854775808) ∧
            next533 = (next505 ++ ([(x_342, x_343, x_344)] : List (Int × (List Byte) × (List Byte)))) ∧ done534 = true
          )
        )
      ) ∧
      (k508 < out321.length) ∧
      ∃ x_557 : Bool, lethelaw11_ahead ((out321.getD k508 ((0 : Int), ([] : List Byte), ([] : List Byte))).1) ((out321.getD k508 ((0 : Int), ([] : List Byte), ([] : List Byte))).2.1) ((out321.getD k508 ((0 : Int), ([] : List Byte), ([] : List Byte))).2.2) x_342 x_343 x_344 x_557 ∧
      if x_557 = true then (
        (k508 < out321.length) ∧
        ((next533.length + ([((out321.getD k508 ((0 : Int), ([] : List Byte), ([] : List Byte))).1, ((out321.getD k508 ((0 : Int), ([] : List Byte), ([] : List Byte))).2.1), ((out321.getD k508 ((0 : Int), ([] : List Byte), ([] : List Byte))).2.2))] : List (Int × (List Byte) × (List Byte))).length) * 56 ≤ 140737488355328 ∧ next533.length + ([((out321.getD k508 ((0 : Int), ([] : List Byte), ([] : List Byte))).1, ((out321.getD k508 ((0 : Int), ([] : List Byte), ([] : List Byte))).2.1), ((out321.getD k508 ((0 : Int), ([] : List Byte), ([] : List Byte))).2.2))] : List (Int × (List Byte) × (List Byte))).length < 9223372036854775808) ∧
        ((k508 + 1) < 9223372036854775808) ∧
        o511 = .inl ((next533 ++ ([((out321.getD k508 ((0 : Int), ([] : List Byte), ([] : List Byte))).1, ((out321.getD k508 ((0 : Int), ([] : List Byte), ([] : List Byte))).2.1), ((out321.getD k508 ((0 : Int), ([] : List Byte), ([] : List Byte))).2.2))] : List (Int × (List Byte) × (List Byte)))), done534, (k508 + 1))
      ) else (
        (k508 < out321.length) ∧
        ∃ x_571 : Bool, lethelaw11_ahead x_342 x_343 x_344 ((out321.getD k508 ((0 : Int), ([] : List Byte), ([] : List Byte))).1) ((out321.getD k508 ((0 : Int), ([] : List Byte), ([] : List Byte))).2.1) ((out321.getD k508 ((0 : Int), ([] : List Byte), ([] : List Byte))).2.2) x_571 ∧
        if x_571 = true then (
          (k508 < out321.length) ∧
          ((next533.length + ([((out321.getD k508 ((0 : Int), ([] : List Byte), ([] : List Byte))).1, ((out321.getD k508 ((0 : Int), ([] : List Byte), ([] : List Byte))).2.1), ((out321.getD k508 ((0 : Int), ([] : List Byte), ([] : List Byte))).2.2))] : List (Int × (List Byte) × (List Byte))).length) * 56 ≤ 140737488355328 ∧ next533.length + ([((out321.getD k508 ((0 : Int), ([] : List Byte), ([] : List Byte))).1, ((out321.getD k508 ((0 : Int), ([] : List Byte), ([] : List Byte))).2.1), ((out321.getD k508 ((0 : Int), ([] : List Byte), ([] : List Byte))).2.2))] : List (Int × (List Byte) × (List Byte))).length < 9223372036854775808) ∧
          ((k508 + 1) < 9223372036854775808) ∧
          o511 = .inl ((next533 ++ ([((out321.getD k508 ((0 : Int), ([] : List Byte), ([] : List Byte))).1, ((out321.getD k508 ((0 : Int), ([] : List Byte), ([] : List Byte))).2.1), ((out321.getD k508 ((0 : Int), ([] : List Byte), ([] : List Byte))).2.2))] : List (Int × (List Byte) × (List Byte)))), done534, (k508 + 1))
        ) else (
          ((k508 + 1) < 9223372036854775808) ∧
          o511 = .inl (next533, done534, (k508 + 1))
        )
      )
    ) else (
      o511 = .inr (next505, done507)
    )
def lethelaw11_sorted_l0 (l_1 : List (Int × (List Byte) × (List Byte))) (s : ((List (Int × (List Byte) × (List Byte))) × Nat)) (o325 : ((List (Int × (List Byte) × (List Byte))) × Nat) ⊕ (List (Int × (List Byte) × (List Byte)))) : Prop :=
  match s with
  | (out321, i_323) =>
    if i_323 < l_1.length then (
      if i_323 < 60 then (
        (i_323 < l_1.length) ∧
        ∃ x_342 : Int, ∃ x_343 : List Byte, ∃ x_344 : List Byte, lethelaw11_right ((l_1.getD i_323 ((0 : Int), ([] : List Byte), ([] : List Byte))).1) ((l_1.getD i_323 ((0 : Int), ([] : List Byte), ([] : List Byte))).2.1) ((l_1.getD i_323 ((0 : Int), ([] : List Byte), ([] : List Byte))).2.2) (x_342, x_343, x_344) ∧
        ∃ next509 : List (Int × (List Byte) × (List Byte)), ∃ done510 : Bool, Iter (lethelaw11_sorted_l1 out321 x_342 x_343 x_344) (([] : List (Int × (List Byte) × (List Byte))), false, 0) (next509, done510) ∧
        if done510 = true then (
          o325 = .inl (next509, (i_323 + 1))
        ) else (
          ((next509.length + ([(x_342, x_343, x_344)] : List (Int × (List Byte) × (List Byte))).length) * 56 ≤ 140737488355328 ∧ next509.length + ([(x_342, x_343, x_344)] : List (Int × (List Byte) × (List Byte))).length < 9223372036854775808) ∧
          o325 = .inl ((next509 ++ ([(x_342, x_343, x_344)] : List (Int × (List Byte) × (List Byte)))), (i_323 + 1))
        )
      ) else (
        o325 = .inr out321
      )
    ) else (
      o325 = .inr out321
    )
def lethelaw11_sorted (l_1 : List (Int × (List Byte) × (List Byte))) (r : (List (Int × (List Byte) × (List Byte)))) : Prop :=
  ∃ out324 : List (Int × (List Byte) × (List Byte)), Iter (lethelaw11_sorted_l0 l_1) (([] : List (Int × (List Byte) × (List Byte))), 0) out324 ∧
  r = out324

def lethelaw11_Eq (a1 : List Byte) (b2 : List Byte) (r : Bool) : Prop :=
  r = (decide (a1 = b2))

def lethelaw11_Same_l0 (a1 : List (Int × (List Byte) × (List Byte))) (b2 : List (Int × (List Byte) × (List Byte))) (r : Bool) (i_72 : Nat) (o73 : Nat ⊕ (Option Unit)) : Prop :=
  if i_72 < a1.length then (
    (i_72 < a1.length) ∧
    (i_72 < b2.length) ∧
    if (a1.getD i_72 ((0 : Int), ([] : List Byte), ([] : List Byte))).1 ≠ (b2.getD i_72 ((0 : Int), ([] : List Byte), ([] : List Byte))).1 then (
      o73 = .inr none ∧ r = false
    ) else (
      (i_72 < a1.length) ∧
      (i_72 < b2.length) ∧
      ∃ x_92 : Bool, lethelaw11_Eq ((a1.getD i_72 ((0 : Int), ([] : List Byte), ([] : List Byte))).2.1) ((b2.getD i_72 ((0 : Int), ([] : List Byte), ([] : List Byte))).2.1) x_92 ∧
      if x_92 = true then (
        (i_72 < a1.length) ∧
        (i_72 < b2.length) ∧
        ∃ x_100 : Bool, lethelaw11_Eq ((a1.getD i_72 ((0 : Int), ([] : List Byte), ([] : List Byte))).2.2) ((b2.getD i_72 ((0 : Int), ([] : List Byte), ([] : List Byte))).2.2) x_100 ∧
        if x_100 = true then (
          ((i_72 + 1) < 9223372036854775808) ∧
          o73 = .inl (i_72 + 1)
        ) else (
          o73 = .inr none ∧ r = false
        )
      ) else (
        o73 = .inr none ∧ r = false
      )
    )
  ) else (
    o73 = .inr (some ())
  )
def lethelaw11_Same (a1 : List (Int × (List Byte) × (List Byte))) (b2 : List (Int × (List Byte) × (List Byte))) (r : Bool) : Prop :=
  if a1.length ≠ b2.length then (
    r = false
  ) else (
    ∃ x73 : Option Unit, Iter (lethelaw11_Same_l0 a1 b2 r) 0 x73 ∧ (x73 = some () →
    r = true
    )
  )

def lethelaw11_sameInts_l0 (a1 : List Int) (b2 : List Int) (r : Bool) (i_36 : Nat) (o37 : Nat ⊕ (Option Unit)) : Prop :=
  if i_36 < a1.length then (
    (i_36 < a1.length) ∧
    (i_36 < b2.length) ∧
    if (a1.getD i_36 (0 : Int)) ≠ (b2.getD i_36 (0 : Int)) then (
      o37 = .inr none ∧ r = false
    ) else (
      ((i_36 + 1) < 9223372036854775808) ∧
      o37 = .inl (i_36 + 1)
    )
  ) else (
    o37 = .inr (some ())
  )
def lethelaw11_sameInts (a1 : List Int) (b2 : List Int) (r : Bool) : Prop :=
  if a1.length ≠ b2.length then (
    r = false
  ) else (
    ∃ x37 : Option Unit, Iter (lethelaw11_sameInts_l0 a1 b2 r) 0 x37 ∧ (x37 = some () →
    r = true
    )
  )

def lethelaw11_blank (rTable1 : Int) (rKey2 : List Byte) (rValue3 : List Byte) (r : Bool) : Prop :=
  r = (decide (rKey2.length = 0))
end Go.Proofs.Ytbkgblhmlenocaa
