/-
  RELATIONS of the package's functions, printed by this session's own program (auto.py).
-/
import Derived.Test.YtjdgbahjpdopbaaDoorLx9
import Derived.Test.YtjdgbahjpdopbaaDoorShaM
import Derived.Test.YtjdgbahjpdopbaaDoorRChain
import Derived.Test.YtjdgbahjpdopbaaDoorRLaw13
namespace Go.Proofs.YtjdgbahjpdopbaaDoor
set_option linter.unusedSimpArgs false
set_option linter.unusedVariables false
set_option linter.unusedSectionVars false
open Go Go.LW

def lethelaw13_ChainHands_l0 (mark3 : Int) (s : ((List (Nat → BitVec 8)) × Nat)) (o76 : ((List (Nat → BitVec 8)) × Nat) ⊕ (List (Nat → BitVec 8))) : Prop :=
  match s with
  | (b73, i_74) =>
    if i_74 < b73.length then (
      (i_74 < b73.length) ∧
      ((i_74 + 1) < 9223372036854775808) ∧
      o76 = .inl ((b73.set i_74 (upd (upd (fun _ => 0#8) 0 (BitVec.ofInt 8 mark3)) 1 (BitVec.ofNat 8 i_74))), (i_74 + 1))
    ) else (
      o76 = .inr b73
    )
def lethelaw13_ChainHands_l1 (mark3 : Int) (b75 : List (Nat → BitVec 8)) (r : Bool) (i_166 : Nat) (o167 : Nat ⊕ (Option Unit)) : Prop :=
  if i_166 < b75.length then (
    (i_166 < b75.length) ∧
    if (eqB 32 (b75.getD i_166 (fun _ => 0#8)) (upd (upd (fun _ => 0#8) 0 (BitVec.ofInt 8 mark3)) 1 (BitVec.ofNat 8 i_166))) = true then (
      ((i_166 + 1) < 9223372036854775808) ∧
      o167 = .inl (i_166 + 1)
    ) else (
      o167 = .inr none ∧ r = false
    )
  ) else (
    o167 = .inr (some ())
  )
def lethelaw13_ChainHands (k1 : Nat → BitVec 8) (n_2 : Int) (mark3 : Int) (r : Bool) : Prop :=
  ∃ x_10 : Nat → BitVec 8, ∃ x_11 : List (Nat → BitVec 8), ∃ x_12 : Nat, chain_Ahead k1 (1 + ((max n_2 (w64 (-(w64 (n_2 + 1))))).tmod 64)) (x_10, x_11, x_12) ∧
  ∃ x_23 : Nat → BitVec 8, ∃ x_24 : List (Nat → BitVec 8), ∃ x_25 : Nat, chain_Ahead k1 (1 + ((max n_2 (w64 (-(w64 (n_2 + 1))))).tmod 64)) (x_23, x_24, x_25) ∧
  if x_12 ≠ 0 then (
    r = false
  ) else (
    if x_25 ≠ 0 then (
      r = false
    ) else (
      if ((x_11.length : Nat) : Int) ≠ (1 + ((max n_2 (w64 (-(w64 (n_2 + 1))))).tmod 64)) then (
        r = false
      ) else (
        ((0 + x_11.length) * 32 ≤ 140737488355328 ∧ 0 + x_11.length < 9223372036854775808) ∧
        ∃ b75 : List (Nat → BitVec 8), Iter (lethelaw13_ChainHands_l0 mark3) (x_24, 0) b75 ∧
        ((b75.length + ([(upd (upd (fun _ => 0#8) 0 (BitVec.ofInt 8 mark3)) 1 (99#8))] : List (Nat → BitVec 8)).length) * 32 ≤ 140737488355328 ∧ b75.length + ([(upd (upd (fun _ => 0#8) 0 (BitVec.ofInt 8 mark3)) 1 (99#8))] : List (Nat → BitVec 8)).length < 9223372036854775808) ∧
        ∃ x_95 : Bool, lethelaw13_sameKeys x_11 (([] : List (Nat → BitVec 8)) ++ x_11) x_95 ∧
        if x_95 = true then (
          ∃ x_100 : Nat → BitVec 8, ∃ x_101 : List (Nat → BitVec 8), ∃ x_102 : Nat, chain_Ahead k1 (1 + ((max n_2 (w64 (-(w64 (n_2 + 1))))).tmod 64)) (x_100, x_101, x_102) ∧
          if x_102 ≠ 0 then (
            r = false
          ) else (
            ∃ x_134 : Bool, lethelaw13_sameKeys x_101 (([] : List (Nat → BitVec 8)) ++ x_11) x_134 ∧
            if x_134 = true then (
              ∃ x_138 : Bool, lethelaw13_sameKeys x_11 (([] : List (Nat → BitVec 8)) ++ x_11) x_138 ∧
              if x_138 = true then (
                (0 ≤ (1 + ((max n_2 (w64 (-(w64 (n_2 + 1))))).tmod 64)) ∧ (1 + ((max n_2 (w64 (-(w64 (n_2 + 1))))).tmod 64)) < (b75 ++ ([(upd (upd (fun _ => 0#8) 0 (BitVec.ofInt 8 mark3)) 1 (99#8))] : List (Nat → BitVec 8))).length) ∧
                if (eqB 32 ((b75 ++ ([(upd (upd (fun _ => 0#8) 0 (BitVec.ofInt 8 mark3)) 1 (99#8))] : List (Nat → BitVec 8))).getD ((1 + ((max n_2 (w64 (-(w64 (n_2 + 1))))).tmod 64)).toNat) (fun _ => 0#8)) (upd (upd (fun _ => 0#8) 0 (BitVec.ofInt 8 mark3)) 1 (99#8))) = true then (
                  ∃ x167 : Option Unit, Iter (lethelaw13_ChainHands_l1 mark3 b75 r) 0 x167 ∧ (x167 = some () →
                  r = true
                  )
                ) else (
                  r = false
                )
              ) else (
                r = false
              )
            ) else (
              r = false
            )
          )
        ) else (
          r = false
        )
      )
    )
  )
end Go.Proofs.YtjdgbahjpdopbaaDoor
