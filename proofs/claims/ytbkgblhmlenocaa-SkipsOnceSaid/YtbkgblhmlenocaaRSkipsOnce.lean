/-
  RELATIONS of the package's functions, printed by this session's own program (auto.py).
-/
import Derived.Test.YtbkgblhmlenocaaEd
import Derived.Test.YtbkgblhmlenocaaRSkips
namespace Go.Proofs.Ytbkgblhmlenocaa
set_option linter.unusedSimpArgs false
set_option linter.unusedVariables false
set_option linter.unusedSectionVars false
open Go Go.LW

def lethelaw15_SkipsOnce_l0 (keys37 : List (Nat → BitVec 8)) (s : ((List Bool) × Nat)) (o163 : ((List Bool) × Nat) ⊕ (List Bool)) : Prop :=
  match s with
  | (left160, i_161) =>
    if i_161 < (([(upd (fun _ => 0#8) 0 (1#8))] : List (Nat → BitVec 8)) ++ keys37).length then (
      (i_161 < left160.length) ∧
      ((i_161 + 1) < 9223372036854775808) ∧
      o163 = .inl ((left160.set i_161 true), (i_161 + 1))
    ) else (
      o163 = .inr left160
    )
def lethelaw15_SkipsOnce_l1 (take2 : List Int) (x_7 : Int) (keys37 : List (Nat → BitVec 8)) (r : Bool) (s : ((List ((BitVec 32 × BitVec 32) × (Nat → BitVec 8))) × (List Bool) × Nat)) (o302 : ((List ((BitVec 32 × BitVec 32) × (Nat → BitVec 8))) × (List Bool) × Nat) ⊕ (Option ((List ((BitVec 32 × BitVec 32) × (Nat → BitVec 8))) × (List Bool)))) : Prop :=
  match s with
  | (mp297, left298, i_299) =>
    if i_299 < take2.length then (
      if i_299 < 60 then (
        (i_299 < take2.length) ∧
        (i_299 < take2.length) ∧
        ((((([(upd (fun _ => 0#8) 0 (1#8))] : List (Nat → BitVec 8)) ++ keys37).length : Nat) : Int) ≠ 0) ∧
        ∃ x_322 : Nat → BitVec 8, ∃ x_323 : Nat, skips_Table_Find x_7 mp297 (3#32) ((7#32) + (BitVec.ofInt 32 ((max (take2.getD i_299 (0 : Int)) (w64 (-(w64 ((take2.getD i_299 (0 : Int)) + 1))))).tmod (((([(upd (fun _ => 0#8) 0 (1#8))] : List (Nat → BitVec 8)) ++ keys37).length : Nat) : Int)))) (x_322, x_323) ∧
        ∃ x_330 : Nat → BitVec 8, ∃ x_331 : Nat, ∃ x_332 : List ((BitVec 32 × BitVec 32) × (Nat → BitVec 8)), skips_Table_Take x_7 mp297 (3#32) ((7#32) + (BitVec.ofInt 32 ((max (take2.getD i_299 (0 : Int)) (w64 (-(w64 ((take2.getD i_299 (0 : Int)) + 1))))).tmod (((([(upd (fun _ => 0#8) 0 (1#8))] : List (Nat → BitVec 8)) ++ keys37).length : Nat) : Int)))) (x_330, x_331, x_332) ∧
        (0 ≤ ((max (take2.getD i_299 (0 : Int)) (w64 (-(w64 ((take2.getD i_299 (0 : Int)) + 1))))).tmod (((([(upd (fun _ => 0#8) 0 (1#8))] : List (Nat → BitVec 8)) ++ keys37).length : Nat) : Int)) ∧ ((max (take2.getD i_299 (0 : Int)) (w64 (-(w64 ((take2.getD i_299 (0 : Int)) + 1))))).tmod (((([(upd (fun _ => 0#8) 0 (1#8))] : List (Nat → BitVec 8)) ++ keys37).length : Nat) : Int)) < left298.length) ∧
        if (left298.getD (((max (take2.getD i_299 (0 : Int)) (w64 (-(w64 ((take2.getD i_299 (0 : Int)) + 1))))).tmod (((([(upd (fun _ => 0#8) 0 (1#8))] : List (Nat → BitVec 8)) ++ keys37).length : Nat) : Int)).toNat) false) = true then (
          (0 ≤ ((max (take2.getD i_299 (0 : Int)) (w64 (-(w64 ((take2.getD i_299 (0 : Int)) + 1))))).tmod (((([(upd (fun _ => 0#8) 0 (1#8))] : List (Nat → BitVec 8)) ++ keys37).length : Nat) : Int)) ∧ ((max (take2.getD i_299 (0 : Int)) (w64 (-(w64 ((take2.getD i_299 (0 : Int)) + 1))))).tmod (((([(upd (fun _ => 0#8) 0 (1#8))] : List (Nat → BitVec 8)) ++ keys37).length : Nat) : Int)) < left298.length) ∧
          if x_323 ≠ 0 then (
            o302 = .inr none ∧ r = false
          ) else (
            if x_331 ≠ 0 then (
              o302 = .inr none ∧ r = false
            ) else (
              (0 ≤ ((max (take2.getD i_299 (0 : Int)) (w64 (-(w64 ((take2.getD i_299 (0 : Int)) + 1))))).tmod (((([(upd (fun _ => 0#8) 0 (1#8))] : List (Nat → BitVec 8)) ++ keys37).length : Nat) : Int)) ∧ ((max (take2.getD i_299 (0 : Int)) (w64 (-(w64 ((take2.getD i_299 (0 : Int)) + 1))))).tmod (((([(upd (fun _ => 0#8) 0 (1#8))] : List (Nat → BitVec 8)) ++ keys37).length : Nat) : Int)) < (([(upd (fun _ => 0#8) 0 (1#8))] : List (Nat → BitVec 8)) ++ keys37).length) ∧
              if (eqB 32 x_322 ((([(upd (fun _ => 0#8) 0 (1#8))] : List (Nat → BitVec 8)) ++ keys37).getD (((max (take2.getD i_299 (0 : Int)) (w64 (-(w64 ((take2.getD i_299 (0 : Int)) + 1))))).tmod (((([(upd (fun _ => 0#8) 0 (1#8))] : List (Nat → BitVec 8)) ++ keys37).length : Nat) : Int)).toNat) (fun _ => 0#8))) = true then (
                (0 ≤ ((max (take2.getD i_299 (0 : Int)) (w64 (-(w64 ((take2.getD i_299 (0 : Int)) + 1))))).tmod (((([(upd (fun _ => 0#8) 0 (1#8))] : List (Nat → BitVec 8)) ++ keys37).length : Nat) : Int)) ∧ ((max (take2.getD i_299 (0 : Int)) (w64 (-(w64 ((take2.getD i_299 (0 : Int)) + 1))))).tmod (((([(upd (fun _ => 0#8) 0 (1#8))] : List (Nat → BitVec 8)) ++ keys37).length : Nat) : Int)) < (([(upd (fun _ => 0#8) 0 (1#8))] : List (Nat → BitVec 8)) ++ keys37).length) ∧
                if (eqB 32 x_330 ((([(upd (fun _ => 0#8) 0 (1#8))] : List (Nat → BitVec 8)) ++ keys37).getD (((max (take2.getD i_299 (0 : Int)) (w64 (-(w64 ((take2.getD i_299 (0 : Int)) + 1))))).tmod (((([(upd (fun _ => 0#8) 0 (1#8))] : List (Nat → BitVec 8)) ++ keys37).length : Nat) : Int)).toNat) (fun _ => 0#8))) = true then (
                  o302 = .inl (x_332, (left298.set (((max (take2.getD i_299 (0 : Int)) (w64 (-(w64 ((take2.getD i_299 (0 : Int)) + 1))))).tmod (((([(upd (fun _ => 0#8) 0 (1#8))] : List (Nat → BitVec 8)) ++ keys37).length : Nat) : Int)).toNat) false), (i_299 + 1))
                ) else (
                  o302 = .inr none ∧ r = false
                )
              ) else (
                o302 = .inr none ∧ r = false
              )
            )
          )
        ) else (
          if x_323 ≠ 152 then (
            o302 = .inr none ∧ r = false
          ) else (
            if x_331 ≠ 152 then (
              o302 = .inr none ∧ r = false
            ) else (
              o302 = .inl (x_332, left298, (i_299 + 1))
            )
          )
        )
      ) else (
        o302 = .inr (some (mp297, left298))
      )
    ) else (
      o302 = .inr (some (mp297, left298))
    )
def lethelaw15_SkipsOnce_l2 (keys37 : List (Nat → BitVec 8)) (x_382 : List ((BitVec 32) × (BitVec 32) × (Nat → BitVec 8))) (r : Bool) (i_423 : Nat) (o424 : Nat ⊕ (Option Unit)) : Prop :=
  if i_423 < (([(upd (fun _ => 0#8) 0 (1#8))] : List (Nat → BitVec 8)) ++ keys37).length then (
    (i_423 < x_382.length) ∧
    (i_423 < (([(upd (fun _ => 0#8) 0 (1#8))] : List (Nat → BitVec 8)) ++ keys37).length) ∧
    if ((decide ((x_382.getD i_423 (0#32, 0#32, (fun _ => 0#8))).1 = 2#32)) && ((decide ((x_382.getD i_423 (0#32, 0#32, (fun _ => 0#8))).2.1 = ((9#32) + (BitVec.ofNat 32 i_423)))) && ((eqB 32 ((x_382.getD i_423 (0#32, 0#32, (fun _ => 0#8))).2.2) ((([(upd (fun _ => 0#8) 0 (1#8))] : List (Nat → BitVec 8)) ++ keys37).getD i_423 (fun _ => 0#8))) && true))) = true then (
      ((i_423 + 1) < 9223372036854775808) ∧
      o424 = .inl (i_423 + 1)
    ) else (
      o424 = .inr none ∧ r = false
    )
  ) else (
    o424 = .inr (some ())
  )
def lethelaw15_SkipsOnce_l3 (keys37 : List (Nat → BitVec 8)) (left301 : List Bool) (x_382 : List ((BitVec 32) × (BitVec 32) × (Nat → BitVec 8))) (r : Bool) (s : (Nat × Nat)) (o494 : (Nat × Nat) ⊕ (Option Nat)) : Prop :=
  match s with
  | (n_491, i_492) =>
    if i_492 < (([(upd (fun _ => 0#8) 0 (1#8))] : List (Nat → BitVec 8)) ++ keys37).length then (
      (i_492 < left301.length) ∧
      if (left301.getD i_492 false) = true then (
        if x_382.length ≤ n_491 then (
          o494 = .inr none ∧ r = false
        ) else (
          (n_491 < x_382.length) ∧
          (i_492 < (([(upd (fun _ => 0#8) 0 (1#8))] : List (Nat → BitVec 8)) ++ keys37).length) ∧
          if ((decide ((x_382.getD n_491 (0#32, 0#32, (fun _ => 0#8))).1 = 3#32)) && ((decide ((x_382.getD n_491 (0#32, 0#32, (fun _ => 0#8))).2.1 = ((7#32) + (BitVec.ofNat 32 i_492)))) && ((eqB 32 ((x_382.getD n_491 (0#32, 0#32, (fun _ => 0#8))).2.2) ((([(upd (fun _ => 0#8) 0 (1#8))] : List (Nat → BitVec 8)) ++ keys37).getD i_492 (fun _ => 0#8))) && true))) = true then (
            ((n_491 + 1) < 9223372036854775808) ∧
            ((i_492 + 1) < 9223372036854775808) ∧
            o494 = .inl ((n_491 + 1), (i_492 + 1))
          ) else (
            o494 = .inr none ∧ r = false
          )
        )
      ) else (
        ((i_492 + 1) < 9223372036854775808) ∧
        o494 = .inl (n_491, (i_492 + 1))
      )
    ) else (
      o494 = .inr (some n_491)
    )
def lethelaw15_SkipsOnce (keys1 : List (Nat → BitVec 8)) (take2 : List Int) (r : Bool) : Prop :=
  ((∃ x_6 : Nat, skips_New 64 (.inl x_6) ∧
    if x_6 ≠ 0 then (
      r = false
    ) else (
      r = false
    )
  ) ∨ (∃ x_7 : Int, ∃ x_8 : List ((BitVec 32 × BitVec 32) × (Nat → BitVec 8)), ∃ x_9 : Nat, skips_New 64 (.inr (x_7, x_8, x_9)) ∧
    if x_9 ≠ 0 then (
      r = false
    ) else (
      ∃ keys37 : List (Nat → BitVec 8), (
        if 30 < keys1.length then (
          (0 ≤ 30 ∧ 30 ≤ keys1.length) ∧
          keys37 = (sgl keys1 0 30)
        ) else (
          keys37 = keys1
        )
      ) ∧
      ((([(upd (fun _ => 0#8) 0 (1#8))] : List (Nat → BitVec 8)).length + keys37.length) * 32 ≤ 140737488355328 ∧ ([(upd (fun _ => 0#8) 0 (1#8))] : List (Nat → BitVec 8)).length + keys37.length < 9223372036854775808) ∧
      ∃ x_73 : Nat, ∃ x_74 : List ((BitVec 32 × BitVec 32) × (Nat → BitVec 8)), skips_Table_Add x_7 x_8 (3#32) (7#32) (([(upd (fun _ => 0#8) 0 (1#8))] : List (Nat → BitVec 8)) ++ keys37) (x_73, x_74) ∧
      if x_73 ≠ 0 then (
        r = false
      ) else (
        ∃ x_81 : Nat, ∃ x_82 : List ((BitVec 32 × BitVec 32) × (Nat → BitVec 8)), skips_Table_Add x_7 x_74 (2#32) (9#32) (([(upd (fun _ => 0#8) 0 (1#8))] : List (Nat → BitVec 8)) ++ keys37) (x_81, x_82) ∧
        if x_81 ≠ 0 then (
          r = false
        ) else (
          ∃ x_89 : Nat, skips_Table_Len x_7 x_82 x_89 ∧
          ((2 * ((([(upd (fun _ => 0#8) 0 (1#8))] : List (Nat → BitVec 8)) ++ keys37).length)) < 9223372036854775808) ∧
          if x_89 ≠ (2 * ((([(upd (fun _ => 0#8) 0 (1#8))] : List (Nat → BitVec 8)) ++ keys37).length)) then (
            r = false
          ) else (
            ∃ x_121 : Nat, ∃ x_122 : List ((BitVec 32 × BitVec 32) × (Nat → BitVec 8)), skips_Table_Add x_7 x_82 (3#32) (7#32) ([(fun _ => 0#8)] : List (Nat → BitVec 8)) (x_121, x_122) ∧
            if x_121 ≠ 151 then (
              r = false
            ) else (
              ∃ x_132 : Nat, ∃ x_133 : List ((BitVec 32 × BitVec 32) × (Nat → BitVec 8)), skips_Table_Add x_7 x_122 (5#32) (4294967295#32) ([(fun _ => 0#8), (fun _ => 0#8)] : List (Nat → BitVec 8)) (x_132, x_133) ∧
              if x_132 ≠ 130 then (
                r = false
              ) else (
                ((([(upd (fun _ => 0#8) 0 (1#8))] : List (Nat → BitVec 8)) ++ keys37).length ≤ (([(upd (fun _ => 0#8) 0 (1#8))] : List (Nat → BitVec 8)) ++ keys37).length ∧ (([(upd (fun _ => 0#8) 0 (1#8))] : List (Nat → BitVec 8)) ++ keys37).length * 1 ≤ 281474976710656) ∧
                ∃ left162 : List Bool, Iter (lethelaw15_SkipsOnce_l0 keys37) ((List.replicate ((([(upd (fun _ => 0#8) 0 (1#8))] : List (Nat → BitVec 8)) ++ keys37).length) false), 0) left162 ∧
                ∃ x302 : Option ((List ((BitVec 32 × BitVec 32) × (Nat → BitVec 8))) × (List Bool)), Iter (lethelaw15_SkipsOnce_l1 take2 x_7 keys37 r) (x_133, left162, 0) x302 ∧ (∀ (mp300 : List ((BitVec 32 × BitVec 32) × (Nat → BitVec 8))) (left301 : List Bool), x302 = some (mp300, left301) →
                ∃ x_382 : List ((BitVec 32) × (BitVec 32) × (Nat → BitVec 8)), skips_Table_List x_7 mp300 x_382 ∧
                if x_382.length < (([(upd (fun _ => 0#8) 0 (1#8))] : List (Nat → BitVec 8)) ++ keys37).length then (
                  r = false
                ) else (
                  ∃ x424 : Option Unit, Iter (lethelaw15_SkipsOnce_l2 keys37 x_382 r) 0 x424 ∧ (x424 = some () →
                  ∃ x494 : Option Nat, Iter (lethelaw15_SkipsOnce_l3 keys37 left301 x_382 r) ((([(upd (fun _ => 0#8) 0 (1#8))] : List (Nat → BitVec 8)) ++ keys37).length, 0) x494 ∧ (∀ (n_493 : Nat), x494 = some n_493 →
                  if n_493 = x_382.length then (
                    ∃ x_529 : Nat, skips_Table_Len x_7 mp300 x_529 ∧
                    r = (decide (x_529 = n_493))
                  ) else (
                    r = false
                  )
                  )
                  )
                )
                )
              )
            )
          )
        )
      )
    )
  ))
end Go.Proofs.Ytbkgblhmlenocaa
