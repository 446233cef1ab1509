/-
  RELATIONS of the package's functions, printed by this session's own program (auto.py).
-/
import Derived.Test.YtbkgblhmlenocaaEd
namespace Go.Proofs.Ytbkgblhmlenocaa
set_option linter.unusedSimpArgs false
set_option linter.unusedVariables false
set_option linter.unusedSectionVars false
open Go Go.LW

def letheref15_New (most1 : Int) (r : Nat ⊕ ((List ((BitVec 32) × (BitVec 32) × (Nat → BitVec 8))) × Int × Nat)) : Prop :=
  if most1 < 0 then (
    r = (.inl 2)
  ) else (
    if 256 < most1 then (
      r = (.inl 2)
    ) else (
      r = (.inr (([] : List ((BitVec 32) × (BitVec 32) × (Nat → BitVec 8))), most1, 0))
    )
  )

def letheref15_ahead (aTurn1 : BitVec 32) (aN2 : BitVec 32) (aKey3 : Nat → BitVec 8) (bTurn4 : BitVec 32) (bN5 : BitVec 32) (bKey6 : Nat → BitVec 8) (r : Bool) : Prop :=
  if aTurn1.toNat < bTurn4.toNat then (
    r = true
  ) else (
    if aTurn1 = bTurn4 then (
      r = (decide (aN2.toNat < bN5.toNat))
    ) else (
      r = false
    )
  )

def letheref15_Load_l0 (list2 : List ((BitVec 32) × (BitVec 32) × (Nat → BitVec 8))) (r : Nat ⊕ ((List ((BitVec 32) × (BitVec 32) × (Nat → BitVec 8))) × Int × Nat)) (i_54 : Nat) (o55 : Nat ⊕ (Option Unit)) : Prop :=
  if i_54 < list2.length then (
    (-9223372036854775808 ≤ (((i_54 : Nat) : Int) - 1) ∧ (((i_54 : Nat) : Int) - 1) ≤ 9223372036854775807) ∧
    (0 ≤ (((i_54 : Nat) : Int) - 1) ∧ (((i_54 : Nat) : Int) - 1) < list2.length) ∧
    (i_54 < list2.length) ∧
    ∃ x_69 : Bool, letheref15_ahead ((list2.getD ((((i_54 : Nat) : Int) - 1).toNat) (0#32, 0#32, (fun _ => 0#8))).1) ((list2.getD ((((i_54 : Nat) : Int) - 1).toNat) (0#32, 0#32, (fun _ => 0#8))).2.1) ((list2.getD ((((i_54 : Nat) : Int) - 1).toNat) (0#32, 0#32, (fun _ => 0#8))).2.2) ((list2.getD i_54 (0#32, 0#32, (fun _ => 0#8))).1) ((list2.getD i_54 (0#32, 0#32, (fun _ => 0#8))).2.1) ((list2.getD i_54 (0#32, 0#32, (fun _ => 0#8))).2.2) x_69 ∧
    if x_69 = true then (
      ((i_54 + 1) < 9223372036854775808) ∧
      o55 = .inl (i_54 + 1)
    ) else (
      o55 = .inr none ∧ r = (.inl 111)
    )
  ) else (
    o55 = .inr (some ())
  )
def letheref15_Load_l1 (list2 : List ((BitVec 32) × (BitVec 32) × (Nat → BitVec 8))) (r : Nat ⊕ ((List ((BitVec 32) × (BitVec 32) × (Nat → BitVec 8))) × Int × Nat)) (i_128 : Nat) (o129 : Nat ⊕ (Option Unit)) : Prop :=
  if i_128 < list2.length then (
    (-9223372036854775808 ≤ (((i_128 : Nat) : Int) - 1) ∧ (((i_128 : Nat) : Int) - 1) ≤ 9223372036854775807) ∧
    (0 ≤ (((i_128 : Nat) : Int) - 1) ∧ (((i_128 : Nat) : Int) - 1) < list2.length) ∧
    (i_128 < list2.length) ∧
    ∃ x_143 : Bool, letheref15_ahead ((list2.getD ((((i_128 : Nat) : Int) - 1).toNat) (0#32, 0#32, (fun _ => 0#8))).1) ((list2.getD ((((i_128 : Nat) : Int) - 1).toNat) (0#32, 0#32, (fun _ => 0#8))).2.1) ((list2.getD ((((i_128 : Nat) : Int) - 1).toNat) (0#32, 0#32, (fun _ => 0#8))).2.2) ((list2.getD i_128 (0#32, 0#32, (fun _ => 0#8))).1) ((list2.getD i_128 (0#32, 0#32, (fun _ => 0#8))).2.1) ((list2.getD i_128 (0#32, 0#32, (fun _ => 0#8))).2.2) x_143 ∧
    if x_143 = true then (
      ((i_128 + 1) < 9223372036854775808) ∧
      o129 = .inl (i_128 + 1)
    ) else (
      o129 = .inr none ∧ r = (.inl 111)
    )
  ) else (
    o129 = .inr (some ())
  )
def letheref15_Load (most1 : Int) (list2 : List ((BitVec 32) × (BitVec 32) × (Nat → BitVec 8))) (r : Nat ⊕ ((List ((BitVec 32) × (BitVec 32) × (Nat → BitVec 8))) × Int × Nat)) : Prop :=
  ((∃ x_6 : Nat, letheref15_New most1 (.inl x_6) ∧
    if x_6 ≠ 0 then (
      r = (.inl x_6)
    ) else (
      if most1 < ((list2.length : Nat) : Int) then (
        r = (.inl 150)
      ) else (
        ∃ x55 : Option Unit, Iter (letheref15_Load_l0 list2 r) 1 x55 ∧ (x55 = some () →
        False
        )
      )
    )
  ) ∨ (∃ x_7 : List ((BitVec 32) × (BitVec 32) × (Nat → BitVec 8)), ∃ x_8 : Int, ∃ x_9 : Nat, letheref15_New most1 (.inr (x_7, x_8, x_9)) ∧
    if x_9 ≠ 0 then (
      r = (.inl x_9)
    ) else (
      if most1 < ((list2.length : Nat) : Int) then (
        r = (.inl 150)
      ) else (
        ∃ x129 : Option Unit, Iter (letheref15_Load_l1 list2 r) 1 x129 ∧ (x129 = some () →
        ((x_7.length + list2.length) * 40 ≤ 140737488355328 ∧ x_7.length + list2.length < 9223372036854775808) ∧
        r = (.inr ((x_7 ++ list2), x_8, 0))
        )
      )
    )
  ))

def letheref15_Table_at_l0 (tList2 : List ((BitVec 32) × (BitVec 32) × (Nat → BitVec 8))) (turn4 : BitVec 32) (n_5 : BitVec 32) (r : Int) (i_36 : Nat) (o37 : Nat ⊕ (Option Unit)) : Prop :=
  if i_36 < tList2.length then (
    (i_36 < tList2.length) ∧
    if (tList2.getD i_36 (0#32, 0#32, (fun _ => 0#8))).1 = turn4 then (
      (i_36 < tList2.length) ∧
      if (tList2.getD i_36 (0#32, 0#32, (fun _ => 0#8))).2.1 = n_5 then (
        o37 = .inr none ∧ r = ((i_36 : Nat) : Int)
      ) else (
        ((i_36 + 1) < 9223372036854775808) ∧
        o37 = .inl (i_36 + 1)
      )
    ) else (
      ((i_36 + 1) < 9223372036854775808) ∧
      o37 = .inl (i_36 + 1)
    )
  ) else (
    o37 = .inr (some ())
  )
def letheref15_Table_at (tList2 : List ((BitVec 32) × (BitVec 32) × (Nat → BitVec 8))) (tMost3 : Int) (turn4 : BitVec 32) (n_5 : BitVec 32) (r : Int) : Prop :=
  ∃ x37 : Option Unit, Iter (letheref15_Table_at_l0 tList2 turn4 n_5 r) 0 x37 ∧ (x37 = some () →
  r = (-1)
  )

def letheref15_Table_put_l0 (tList2 : List ((BitVec 32) × (BitVec 32) × (Nat → BitVec 8))) (sTurn4 : BitVec 32) (sN5 : BitVec 32) (sKey6 : Nat → BitVec 8) (s : ((List ((BitVec 32) × (BitVec 32) × (Nat → BitVec 8))) × Bool × Nat)) (o115 : ((List ((BitVec 32) × (BitVec 32) × (Nat → BitVec 8))) × Bool × Nat) ⊕ ((List ((BitVec 32) × (BitVec 32) × (Nat → BitVec 8))) × Bool)) : Prop :=
  match s with
  | (out109, done111, i_112) =>
    if i_112 < tList2.length then (
      ∃ out137 : List ((BitVec 32) × (BitVec 32) × (Nat → BitVec 8)), ∃ done138 : Bool, (
        if done111 = true then (
          out137 = out109 ∧ done138 = done111
        ) else (
          (i_112 < tList2.length) ∧
          ∃ x_146 : Bool, letheref15_ahead sTurn4 sN5 sKey6 ((tList2.getD i_112 (0#32, 0#32, (fun _ => 0#8))).1) ((tList2.getD i_112 (0#32, 0#32, (fun _ => 0#8))).2.1) ((tList2.getD i_112 (0#32, 0#32, (fun _ => 0#8))).2.2) x_146 ∧
          if x_146 = true then (
            ((out109.length + ([(sTurn4, sN5, sKey6)] : List ((BitVec 32) × (BitVec 32) × (Nat → BitVec 8))).length) * 40 ≤ 140737488355328 ∧ out109.length + ([(sTurn4, sN5, sKey6)] : List ((BitVec 32) × (BitVec 32) × (Nat → BitVec 8))).length < 9223372036854775808) ∧
            out137 = (out109 ++ ([(sTurn4, sN5, sKey6)] : List ((BitVec 32) × (BitVec 32) × (Nat → BitVec 8)))) ∧ done138 = true
          ) else (
            out137 = out109 ∧ done138 = done111
          )
        )
      ) ∧
      (i_112 < tList2.length) ∧
      ((out137.length + ([((tList2.getD i_112 (0#32, 0#32, (fun _ => 0#8))).1, (tList2.getD i_112 (0#32, 0#32, (fun _ => 0#8))).2.1, (tList2.getD i_112 (0#32, 0#32, (fun _ => 0#8))).2.2)] : List ((BitVec 32) × (BitVec 32) × (Nat → BitVec 8))).length) * 40 ≤ 140737488355328 ∧ out137.length + ([((tList2.getD i_112 (0#32, 0#32, (fun _ => 0#8))).1, (tList2.getD i_112 (0#32, 0#32, (fun _ => 0#8))).2.1, (tList2.getD i_112 (0#32, 0#32, (fun _ => 0#8))).2.2)] : List ((BitVec 32) × (BitVec 32) × (Nat → BitVec 8))).length < 9223372036854775808) ∧
      ((i_112 + 1) < 9223372036854775808) ∧
      o115 = .inl ((out137 ++ ([((tList2.getD i_112 (0#32, 0#32, (fun _ => 0#8))).1, (tList2.getD i_112 (0#32, 0#32, (fun _ => 0#8))).2.1, (tList2.getD i_112 (0#32, 0#32, (fun _ => 0#8))).2.2)] : List ((BitVec 32) × (BitVec 32) × (Nat → BitVec 8)))), done138, (i_112 + 1))
    ) else (
      o115 = .inr (out109, done111)
    )
def letheref15_Table_put (tList2 : List ((BitVec 32) × (BitVec 32) × (Nat → BitVec 8))) (tMost3 : Int) (sTurn4 : BitVec 32) (sN5 : BitVec 32) (sKey6 : Nat → BitVec 8) (r : (List ((BitVec 32) × (BitVec 32) × (Nat → BitVec 8)))) : Prop :=
  ∃ out113 : List ((BitVec 32) × (BitVec 32) × (Nat → BitVec 8)), ∃ done114 : Bool, Iter (letheref15_Table_put_l0 tList2 sTurn4 sN5 sKey6) (([] : List ((BitVec 32) × (BitVec 32) × (Nat → BitVec 8))), false, 0) (out113, done114) ∧
  ∃ out172 : List ((BitVec 32) × (BitVec 32) × (Nat → BitVec 8)), (
    if done114 = true then (
      out172 = out113
    ) else (
      ((out113.length + ([(sTurn4, sN5, sKey6)] : List ((BitVec 32) × (BitVec 32) × (Nat → BitVec 8))).length) * 40 ≤ 140737488355328 ∧ out113.length + ([(sTurn4, sN5, sKey6)] : List ((BitVec 32) × (BitVec 32) × (Nat → BitVec 8))).length < 9223372036854775808) ∧
      out172 = (out113 ++ ([(sTurn4, sN5, sKey6)] : List ((BitVec 32) × (BitVec 32) × (Nat → BitVec 8))))
    )
  ) ∧
  r = out172

def letheref15_Table_Add_l0 (tList2 : List ((BitVec 32) × (BitVec 32) × (Nat → BitVec 8))) (tMost3 : Int) (turn4 : BitVec 32) (first5 : BitVec 32) (keys6 : List (Nat → BitVec 8)) (r : (Nat × (List ((BitVec 32) × (BitVec 32) × (Nat → BitVec 8))))) (i_44 : Nat) (o45 : Nat ⊕ (Option Unit)) : Prop :=
  if i_44 < keys6.length then (
    ∃ x_54 : Int, letheref15_Table_at tList2 tMost3 turn4 (first5 + (BitVec.ofNat 32 i_44)) x_54 ∧
    if 0 ≤ x_54 then (
      o45 = .inr none ∧ r = (151, tList2)
    ) else (
      ((i_44 + 1) < 9223372036854775808) ∧
      o45 = .inl (i_44 + 1)
    )
  ) else (
    o45 = .inr (some ())
  )
def letheref15_Table_Add_l1 (tMost3 : Int) (turn4 : BitVec 32) (first5 : BitVec 32) (keys6 : List (Nat → BitVec 8)) (s : (Nat × (List ((BitVec 32) × (BitVec 32) × (Nat → BitVec 8))))) (o105 : (Nat × (List ((BitVec 32) × (BitVec 32) × (Nat → BitVec 8)))) ⊕ (List ((BitVec 32) × (BitVec 32) × (Nat → BitVec 8)))) : Prop :=
  match s with
  | (i_102, m103) =>
    if i_102 < keys6.length then (
      (i_102 < keys6.length) ∧
      ∃ x_116 : List ((BitVec 32) × (BitVec 32) × (Nat → BitVec 8)), letheref15_Table_put m103 tMost3 turn4 (first5 + (BitVec.ofNat 32 i_102)) (keys6.getD i_102 (fun _ => 0#8)) x_116 ∧
      ((i_102 + 1) < 9223372036854775808) ∧
      o105 = .inl ((i_102 + 1), x_116)
    ) else (
      o105 = .inr m103
    )
def letheref15_Table_Add (tList2 : List ((BitVec 32) × (BitVec 32) × (Nat → BitVec 8))) (tMost3 : Int) (turn4 : BitVec 32) (first5 : BitVec 32) (keys6 : List (Nat → BitVec 8)) (r : (Nat × (List ((BitVec 32) × (BitVec 32) × (Nat → BitVec 8))))) : Prop :=
  if keys6.length = 0 then (
    r = (0, tList2)
  ) else (
    ((first5.toNat + keys6.length) < 9223372036854775808) ∧
    (-9223372036854775808 ≤ ((((first5.toNat + keys6.length) : Nat) : Int) - 1) ∧ ((((first5.toNat + keys6.length) : Nat) : Int) - 1) ≤ 9223372036854775807) ∧
    if 4294967295 < ((((first5.toNat + keys6.length) : Nat) : Int) - 1) then (
      r = (130, tList2)
    ) else (
      ∃ x45 : Option Unit, Iter (letheref15_Table_Add_l0 tList2 tMost3 turn4 first5 keys6 r) 0 x45 ∧ (x45 = some () →
      ((tList2.length + keys6.length) < 9223372036854775808) ∧
      if tMost3 < (((tList2.length + keys6.length) : Nat) : Int) then (
        r = (150, tList2)
      ) else (
        ∃ m104 : List ((BitVec 32) × (BitVec 32) × (Nat → BitVec 8)), Iter (letheref15_Table_Add_l1 tMost3 turn4 first5 keys6) (0, tList2) m104 ∧
        r = (0, m104)
      )
      )
    )
  )

def letheref15_Table_Find (tList2 : List ((BitVec 32) × (BitVec 32) × (Nat → BitVec 8))) (tMost3 : Int) (turn4 : BitVec 32) (n_5 : BitVec 32) (r : ((Nat → BitVec 8) × Nat)) : Prop :=
  ∃ x_11 : Int, letheref15_Table_at tList2 tMost3 turn4 n_5 x_11 ∧
  if x_11 < 0 then (
    r = ((fun _ => 0#8), 152)
  ) else (
    (0 ≤ x_11 ∧ x_11 < tList2.length) ∧
    r = ((tList2.getD x_11.toNat (0#32, 0#32, (fun _ => 0#8))).2.2, 0)
  )

def letheref15_Table_Take (tList2 : List ((BitVec 32) × (BitVec 32) × (Nat → BitVec 8))) (tMost3 : Int) (turn4 : BitVec 32) (n_5 : BitVec 32) (r : ((Nat → BitVec 8) × Nat × (List ((BitVec 32) × (BitVec 32) × (Nat → BitVec 8))))) : Prop :=
  ∃ x_11 : Int, letheref15_Table_at tList2 tMost3 turn4 n_5 x_11 ∧
  if x_11 < 0 then (
    r = ((fun _ => 0#8), 152, tList2)
  ) else (
    (0 ≤ x_11 ∧ x_11 < tList2.length) ∧
    (0 ≤ x_11) ∧
    (0 ≤ x_11.toNat ∧ x_11.toNat ≤ tList2.length) ∧
    ((0 + x_11.toNat) * 40 ≤ 140737488355328 ∧ 0 + x_11.toNat < 9223372036854775808) ∧
    (-9223372036854775808 ≤ (x_11 + 1) ∧ (x_11 + 1) ≤ 9223372036854775807) ∧
    (0 ≤ (x_11 + 1)) ∧
    ((x_11 + 1).toNat ≤ tList2.length ∧ tList2.length ≤ tList2.length) ∧
    (((([] : List ((BitVec 32) × (BitVec 32) × (Nat → BitVec 8))) ++ (sgl tList2 0 x_11.toNat)).length + (tList2.length - (x_11 + 1).toNat)) * 40 ≤ 140737488355328 ∧ (([] : List ((BitVec 32) × (BitVec 32) × (Nat → BitVec 8))) ++ (sgl tList2 0 x_11.toNat)).length + (tList2.length - (x_11 + 1).toNat) < 9223372036854775808) ∧
    r = ((tList2.getD x_11.toNat (0#32, 0#32, (fun _ => 0#8))).2.2, 0, ((([] : List ((BitVec 32) × (BitVec 32) × (Nat → BitVec 8))) ++ (sgl tList2 0 x_11.toNat)) ++ (sgl tList2 ((x_11 + 1).toNat) tList2.length)))
  )
end Go.Proofs.Ytbkgblhmlenocaa
