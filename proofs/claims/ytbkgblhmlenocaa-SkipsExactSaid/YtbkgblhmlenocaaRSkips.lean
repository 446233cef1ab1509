/-
  RELATIONS of the package's functions, printed by this session's own program (auto.py).
-/
import Derived.Test.YtbkgblhmlenocaaEd
import Derived.Test.YtbkgblhmlenocaaRCmp
namespace Go.Proofs.Ytbkgblhmlenocaa
set_option linter.unusedSimpArgs false
set_option linter.unusedVariables false
set_option linter.unusedSectionVars false
open Go Go.LW

def skips_New (most1 : Int) (r : Nat ⊕ (Int × (List ((BitVec 32 × BitVec 32) × (Nat → BitVec 8))) × Nat)) : Prop :=
  if most1 < 0 then (
    r = (.inl 2)
  ) else (
    if 256 < most1 then (
      r = (.inl 2)
    ) else (
      r = (.inr (most1, ([] : List ((BitVec 32 × BitVec 32) × (Nat → BitVec 8))), 0))
    )
  )

def skips_order (aTurn1 : BitVec 32) (aN2 : BitVec 32) (aKey3 : Nat → BitVec 8) (bTurn4 : BitVec 32) (bN5 : BitVec 32) (bKey6 : Nat → BitVec 8) (r : Int) : Prop :=
  ∃ x_13 : Int, cmp_Compare_uint32 aTurn1 bTurn4 x_13 ∧
  ∃ x_16 : Int, cmp_Compare_uint32 aN2 bN5 x_16 ∧
  ∃ x_21 : Int, cmp_Or_int ([x_13, x_16] : List Int) x_21 ∧
  r = x_21

def skips_Load_l0 (list2 : List ((BitVec 32) × (BitVec 32) × (Nat → BitVec 8))) (_s : Unit) (o36 : Unit ⊕ (Option Unit)) : Prop :=
  if 0 < list2.length then (
    (0 < list2.length) ∧
    False
  ) else (
    o36 = .inr (some ())
  )
def skips_Load_l1 (list2 : List ((BitVec 32) × (BitVec 32) × (Nat → BitVec 8))) (r : Nat ⊕ (Int × (List ((BitVec 32 × BitVec 32) × (Nat → BitVec 8))) × Nat)) (s : ((List ((BitVec 32 × BitVec 32) × (Nat → BitVec 8))) × Nat)) (o130 : ((List ((BitVec 32 × BitVec 32) × (Nat → BitVec 8))) × Nat) ⊕ (Option (List ((BitVec 32 × BitVec 32) × (Nat → BitVec 8))))) : Prop :=
  match s with
  | (mp127, t128) =>
    if t128 < list2.length then (
      (t128 < list2.length) ∧
      ∃ ok153 : Bool, (
        if 0 < t128 then (
          (-9223372036854775808 ≤ (((t128 : Nat) : Int) - 1) ∧ (((t128 : Nat) : Int) - 1) ≤ 9223372036854775807) ∧
          (0 ≤ (((t128 : Nat) : Int) - 1) ∧ (((t128 : Nat) : Int) - 1) < list2.length) ∧
          ∃ x_161 : Int, skips_order ((list2.getD ((((t128 : Nat) : Int) - 1).toNat) (0#32, 0#32, (fun _ => 0#8))).1) ((list2.getD ((((t128 : Nat) : Int) - 1).toNat) (0#32, 0#32, (fun _ => 0#8))).2.1) ((list2.getD ((((t128 : Nat) : Int) - 1).toNat) (0#32, 0#32, (fun _ => 0#8))).2.2) ((list2.getD t128 (0#32, 0#32, (fun _ => 0#8))).1) ((list2.getD t128 (0#32, 0#32, (fun _ => 0#8))).2.1) ((list2.getD t128 (0#32, 0#32, (fun _ => 0#8))).2.2) x_161 ∧
          if 0 ≤ x_161 then (
            ok153 = false ∧ o130 = .inr none ∧ r = (.inl 111)
          ) else (
            ok153 = true
          )
        ) else (
          ok153 = true
        )
      ) ∧
      (ok153 = true →
      ((t128 + 1) < 9223372036854775808) ∧
      o130 = .inl ((mset ((list2.getD t128 (0#32, 0#32, (fun _ => 0#8))).1, (list2.getD t128 (0#32, 0#32, (fun _ => 0#8))).2.1) ((list2.getD t128 (0#32, 0#32, (fun _ => 0#8))).2.2) mp127), (t128 + 1))
      )
    ) else (
      o130 = .inr (some mp127)
    )
def skips_Load (most1 : Int) (list2 : List ((BitVec 32) × (BitVec 32) × (Nat → BitVec 8))) (r : Nat ⊕ (Int × (List ((BitVec 32 × BitVec 32) × (Nat → BitVec 8))) × Nat)) : Prop :=
  ((∃ x_6 : Nat, skips_New most1 (.inl x_6) ∧
    if x_6 ≠ 0 then (
      r = (.inl x_6)
    ) else (
      if most1 < ((list2.length : Nat) : Int) then (
        r = (.inl 150)
      ) else (
        ∃ x36 : Option Unit, Iter (skips_Load_l0 list2) () x36 ∧ (x36 = some () →
        r = (.inl 0)
        )
      )
    )
  ) ∨ (∃ x_7 : Int, ∃ x_8 : List ((BitVec 32 × BitVec 32) × (Nat → BitVec 8)), ∃ x_9 : Nat, skips_New most1 (.inr (x_7, x_8, x_9)) ∧
    if x_9 ≠ 0 then (
      r = (.inl x_9)
    ) else (
      if most1 < ((list2.length : Nat) : Int) then (
        r = (.inl 150)
      ) else (
        ∃ x130 : Option (List ((BitVec 32 × BitVec 32) × (Nat → BitVec 8))), Iter (skips_Load_l1 list2 r) (x_8, 0) x130 ∧ (∀ (mp129 : List ((BitVec 32 × BitVec 32) × (Nat → BitVec 8))), x130 = some mp129 →
        r = (.inr (x_7, mp129, 0))
        )
      )
    )
  ))

def skips_Table_Add_l0 (tkeys3 : List ((BitVec 32 × BitVec 32) × (Nat → BitVec 8))) (turn4 : BitVec 32) (first5 : BitVec 32) (keys6 : List (Nat → BitVec 8)) (r : (Nat × (List ((BitVec 32 × BitVec 32) × (Nat → BitVec 8))))) (t44 : Nat) (o45 : Nat ⊕ (Option Unit)) : Prop :=
  if t44 < keys6.length then (
    if (mget (turn4, (first5 + (BitVec.ofNat 32 t44))) tkeys3).isSome = true then (
      o45 = .inr none ∧ r = (151, tkeys3)
    ) else (
      ((t44 + 1) < 9223372036854775808) ∧
      o45 = .inl (t44 + 1)
    )
  ) else (
    o45 = .inr (some ())
  )
def skips_Table_Add_l1 (turn4 : BitVec 32) (first5 : BitVec 32) (keys6 : List (Nat → BitVec 8)) (s : ((List ((BitVec 32 × BitVec 32) × (Nat → BitVec 8))) × Nat)) (o100 : ((List ((BitVec 32 × BitVec 32) × (Nat → BitVec 8))) × Nat) ⊕ (List ((BitVec 32 × BitVec 32) × (Nat → BitVec 8)))) : Prop :=
  match s with
  | (mp97, t98) =>
    if t98 < keys6.length then (
      (t98 < keys6.length) ∧
      ((t98 + 1) < 9223372036854775808) ∧
      o100 = .inl ((mset (turn4, (first5 + (BitVec.ofNat 32 t98))) (keys6.getD t98 (fun _ => 0#8)) mp97), (t98 + 1))
    ) else (
      o100 = .inr mp97
    )
def skips_Table_Add (tmost2 : Int) (tkeys3 : List ((BitVec 32 × BitVec 32) × (Nat → BitVec 8))) (turn4 : BitVec 32) (first5 : BitVec 32) (keys6 : List (Nat → BitVec 8)) (r : (Nat × (List ((BitVec 32 × BitVec 32) × (Nat → BitVec 8))))) : Prop :=
  if keys6.length = 0 then (
    r = (0, tkeys3)
  ) else (
    if (4294967295#64).toNat < (((first5.setWidth 64) + (BitVec.ofNat 64 keys6.length)) - (1#64)).toNat then (
      r = (130, tkeys3)
    ) else (
      ∃ x45 : Option Unit, Iter (skips_Table_Add_l0 tkeys3 turn4 first5 keys6 r) 0 x45 ∧ (x45 = some () →
      ((tkeys3.length + keys6.length) < 9223372036854775808) ∧
      if tmost2 < (((tkeys3.length + keys6.length) : Nat) : Int) then (
        r = (150, tkeys3)
      ) else (
        ∃ mp99 : List ((BitVec 32 × BitVec 32) × (Nat → BitVec 8)), Iter (skips_Table_Add_l1 turn4 first5 keys6) (tkeys3, 0) mp99 ∧
        r = (0, mp99)
      )
      )
    )
  )

def skips_Table_Find (tmost2 : Int) (tkeys3 : List ((BitVec 32 × BitVec 32) × (Nat → BitVec 8))) (turn4 : BitVec 32) (n_5 : BitVec 32) (r : ((Nat → BitVec 8) × Nat)) : Prop :=
  if (mget (turn4, n_5) tkeys3).isSome = true then (
    r = (((mget (turn4, n_5) tkeys3).getD (fun _ => 0#8)), 0)
  ) else (
    r = ((fun _ => 0#8), 152)
  )

def skips_Table_Take (tmost2 : Int) (tkeys3 : List ((BitVec 32 × BitVec 32) × (Nat → BitVec 8))) (turn4 : BitVec 32) (n_5 : BitVec 32) (r : ((Nat → BitVec 8) × Nat × (List ((BitVec 32 × BitVec 32) × (Nat → BitVec 8))))) : Prop :=
  ∃ x_11 : Nat → BitVec 8, ∃ x_12 : Nat, skips_Table_Find tmost2 tkeys3 turn4 n_5 (x_11, x_12) ∧
  r = (x_11, x_12, (mdel (turn4, n_5) tkeys3))

def skips_Table_Len (tmost2 : Int) (tkeys3 : List ((BitVec 32 × BitVec 32) × (Nat → BitVec 8))) (r : Nat) : Prop :=
  r = tkeys3.length

def skips_Table_List_l0  (p44 : (BitVec 32 × BitVec 32) × (Nat → BitVec 8)) (s : (List ((BitVec 32) × (BitVec 32) × (Nat → BitVec 8)))) (o44 : (List ((BitVec 32) × (BitVec 32) × (Nat → BitVec 8)))) : Prop :=
  match p44, s with
  | (kx49, vx49), out42 =>
    ((out42.length + ([(kx49.1, kx49.2, vx49)] : List ((BitVec 32) × (BitVec 32) × (Nat → BitVec 8))).length) * 40 ≤ 140737488355328 ∧ out42.length + ([(kx49.1, kx49.2, vx49)] : List ((BitVec 32) × (BitVec 32) × (Nat → BitVec 8))).length < 9223372036854775808) ∧
    o44 = (out42 ++ ([(kx49.1, kx49.2, vx49)] : List ((BitVec 32) × (BitVec 32) × (Nat → BitVec 8))))
def skips_Table_List (tmost2 : Int) (tkeys3 : List ((BitVec 32 × BitVec 32) × (Nat → BitVec 8))) (r : (List ((BitVec 32) × (BitVec 32) × (Nat → BitVec 8)))) : Prop :=
  RangeR (skips_Table_List_l0) (fun out42 => (
  (out42.length < 4611686018427387904) ∧
  ∃ cf67 : ((BitVec 32) × (BitVec 32) × (Nat → BitVec 8)) → ((BitVec 32) × (BitVec 32) × (Nat → BitVec 8)) → Int, (∀ x y, skips_order x.1 x.2.1 x.2.2 y.1 y.2.1 y.2.2 (cf67 x y)) ∧ Sort.SWO (Proofs.ltOf cf67) ∧ ∀ so67 : List ((BitVec 32) × (BitVec 32) × (Nat → BitVec 8)), so67.Perm out42 → so67.Pairwise (fun x y => ¬ cf67 y x < 0) →
  r = so67
  )) tkeys3.length tkeys3 ([] : List ((BitVec 32) × (BitVec 32) × (Nat → BitVec 8)))

def skips_Table_Copy (tmost2 : Int) (tkeys3 : List ((BitVec 32 × BitVec 32) × (Nat → BitVec 8))) (r : (Int × (List ((BitVec 32 × BitVec 32) × (Nat → BitVec 8))))) : Prop :=
  r = (tmost2, tkeys3)
end Go.Proofs.Ytbkgblhmlenocaa
