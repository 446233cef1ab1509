/-
  RELATIONS of the package's functions, printed by this session's own program (auto.py).
-/
import Derived.Test.YtbkgblhmlenocaaEd
import Derived.Test.YtbkgblhmlenocaaRLaw15
import Derived.Test.YtbkgblhmlenocaaRSkips
namespace Go.Proofs.Ytbkgblhmlenocaa
set_option linter.unusedSimpArgs false
set_option linter.unusedVariables false
set_option linter.unusedSectionVars false
open Go Go.LW

def lethelaw15_SkipsHands_l0 (mark2 : BitVec 32) (s : ((List ((BitVec 32) × (BitVec 32) × (Nat → BitVec 8))) × Nat)) (o127 : ((List ((BitVec 32) × (BitVec 32) × (Nat → BitVec 8))) × Nat) ⊕ (List ((BitVec 32) × (BitVec 32) × (Nat → BitVec 8)))) : Prop :=
  match s with
  | (b124, i_125) =>
    if i_125 < b124.length then (
      (i_125 < b124.length) ∧
      ((i_125 + 1) < 9223372036854775808) ∧
      o127 = .inl ((b124.set i_125 (mark2, (BitVec.ofNat 32 i_125), (fun _ => 0#8))), (i_125 + 1))
    ) else (
      o127 = .inr b124
    )
def lethelaw15_SkipsHands_l1 (mark2 : BitVec 32) (b126 : List ((BitVec 32) × (BitVec 32) × (Nat → BitVec 8))) (r : Bool) (i_325 : Nat) (o326 : Nat ⊕ (Option Unit)) : Prop :=
  if i_325 < b126.length then (
    (i_325 < b126.length) ∧
    if ((decide ((b126.getD i_325 (0#32, 0#32, (fun _ => 0#8))).1 = mark2)) && ((decide ((b126.getD i_325 (0#32, 0#32, (fun _ => 0#8))).2.1 = (BitVec.ofNat 32 i_325))) && ((eqB 32 ((b126.getD i_325 (0#32, 0#32, (fun _ => 0#8))).2.2) (fun _ => 0#8)) && true))) = true then (
      ((i_325 + 1) < 9223372036854775808) ∧
      o326 = .inl (i_325 + 1)
    ) else (
      o326 = .inr none ∧ r = false
    )
  ) else (
    o326 = .inr (some ())
  )
def lethelaw15_SkipsHands (keys1 : List (Nat → BitVec 8)) (mark2 : BitVec 32) (r : Bool) : Prop :=
  ((∃ x_6 : Nat, skips_New 64 (.inl x_6) ∧
    if x_6 ≠ 0 then (
      r = false
    ) else (
      r = false
    )
  ) ∨ (∃ x_7 : Int, ∃ x_8 : List ((BitVec 32 × BitVec 32) × (Nat → BitVec 8)), ∃ x_9 : Nat, skips_New 64 (.inr (x_7, x_8, x_9)) ∧
    if x_9 ≠ 0 then (
      r = false
    ) else (
      ∃ keys37 : List (Nat → BitVec 8), (
        if 30 < keys1.length then (
          (0 ≤ 30 ∧ 30 ≤ keys1.length) ∧
          keys37 = (sgl keys1 0 30)
        ) else (
          keys37 = keys1
        )
      ) ∧
      ((([(upd (fun _ => 0#8) 0 (1#8)), (upd (fun _ => 0#8) 0 (2#8))] : List (Nat → BitVec 8)).length + keys37.length) * 32 ≤ 140737488355328 ∧ ([(upd (fun _ => 0#8) 0 (1#8)), (upd (fun _ => 0#8) 0 (2#8))] : List (Nat → BitVec 8)).length + keys37.length < 9223372036854775808) ∧
      ∃ x_53 : Nat, ∃ x_54 : List ((BitVec 32 × BitVec 32) × (Nat → BitVec 8)), skips_Table_Add x_7 x_8 (0#32) (0#32) (([(upd (fun _ => 0#8) 0 (1#8)), (upd (fun _ => 0#8) 0 (2#8))] : List (Nat → BitVec 8)) ++ keys37) (x_53, x_54) ∧
      if x_53 ≠ 0 then (
        r = false
      ) else (
        ∃ x_62 : Int, ∃ x_63 : List ((BitVec 32 × BitVec 32) × (Nat → BitVec 8)), skips_Table_Copy x_7 x_54 (x_62, x_63) ∧
        ∃ x_71 : List ((BitVec 32) × (BitVec 32) × (Nat → BitVec 8)), skips_Table_List x_7 x_54 x_71 ∧
        ∃ x_81 : List ((BitVec 32) × (BitVec 32) × (Nat → BitVec 8)), skips_Table_List x_7 x_54 x_81 ∧
        if x_71.length ≠ (([(upd (fun _ => 0#8) 0 (1#8)), (upd (fun _ => 0#8) 0 (2#8))] : List (Nat → BitVec 8)) ++ keys37).length then (
          r = false
        ) else (
          if x_81.length ≠ x_71.length then (
            r = false
          ) else (
            ((0 + x_71.length) * 40 ≤ 140737488355328 ∧ 0 + x_71.length < 9223372036854775808) ∧
            ∃ b126 : List ((BitVec 32) × (BitVec 32) × (Nat → BitVec 8)), Iter (lethelaw15_SkipsHands_l0 mark2) (x_81, 0) b126 ∧
            ((b126.length + ([(mark2, 999#32, (fun _ => 0#8))] : List ((BitVec 32) × (BitVec 32) × (Nat → BitVec 8))).length) * 40 ≤ 140737488355328 ∧ b126.length + ([(mark2, 999#32, (fun _ => 0#8))] : List ((BitVec 32) × (BitVec 32) × (Nat → BitVec 8))).length < 9223372036854775808) ∧
            ∃ x_146 : Bool, lethelaw15_sameList x_71 (([] : List ((BitVec 32) × (BitVec 32) × (Nat → BitVec 8))) ++ x_71) x_146 ∧
            if x_146 = true then (
              ∃ x_153 : Nat → BitVec 8, ∃ x_154 : Nat, ∃ x_155 : List ((BitVec 32 × BitVec 32) × (Nat → BitVec 8)), skips_Table_Take x_62 x_63 (0#32) (0#32) (x_153, x_154, x_155) ∧
              ∃ x_164 : Nat, ∃ x_165 : List ((BitVec 32 × BitVec 32) × (Nat → BitVec 8)), skips_Table_Add x_62 x_155 (9#32) (9#32) ([(upd (fun _ => 0#8) 0 (9#8))] : List (Nat → BitVec 8)) (x_164, x_165) ∧
              ∃ x_171 : List ((BitVec 32) × (BitVec 32) × (Nat → BitVec 8)), skips_Table_List x_7 x_54 x_171 ∧
              ∃ t264 : Bool, (
                if x_154 ≠ 0 then (
                  t264 = true
                ) else (
                  if x_164 ≠ 0 then (
                    t264 = true
                  ) else (
                    ∃ x_271 : Bool, lethelaw15_sameList x_171 (([] : List ((BitVec 32) × (BitVec 32) × (Nat → BitVec 8))) ++ x_71) x_271 ∧
                    if x_271 = true then (
                      ∃ x_275 : Bool, lethelaw15_sameList x_71 (([] : List ((BitVec 32) × (BitVec 32) × (Nat → BitVec 8))) ++ x_71) x_275 ∧
                      if x_275 = true then (
                        ∃ x_280 : Nat, skips_Table_Len x_7 x_54 x_280 ∧
                        if x_280 ≠ (([(upd (fun _ => 0#8) 0 (1#8)), (upd (fun _ => 0#8) 0 (2#8))] : List (Nat → BitVec 8)) ++ keys37).length then (
                          t264 = true
                        ) else (
                          ∃ x_287 : Nat, skips_Table_Len x_62 x_165 x_287 ∧
                          if x_287 ≠ (([(upd (fun _ => 0#8) 0 (1#8)), (upd (fun _ => 0#8) 0 (2#8))] : List (Nat → BitVec 8)) ++ keys37).length then (
                            t264 = true
                          ) else (
                            (b126.length < (b126 ++ ([(mark2, 999#32, (fun _ => 0#8))] : List ((BitVec 32) × (BitVec 32) × (Nat → BitVec 8)))).length) ∧
                            t264 = (!((decide (((b126 ++ ([(mark2, 999#32, (fun _ => 0#8))] : List ((BitVec 32) × (BitVec 32) × (Nat → BitVec 8)))).getD b126.length (0#32, 0#32, (fun _ => 0#8))).1 = mark2)) && ((decide (((b126 ++ ([(mark2, 999#32, (fun _ => 0#8))] : List ((BitVec 32) × (BitVec 32) × (Nat → BitVec 8)))).getD b126.length (0#32, 0#32, (fun _ => 0#8))).2.1 = 999#32)) && ((eqB 32 (((b126 ++ ([(mark2, 999#32, (fun _ => 0#8))] : List ((BitVec 32) × (BitVec 32) × (Nat → BitVec 8)))).getD b126.length (0#32, 0#32, (fun _ => 0#8))).2.2) (fun _ => 0#8)) && true))))
                          )
                        )
                      ) else (
                        t264 = true
                      )
                    ) else (
                      t264 = true
                    )
                  )
                )
              ) ∧
              if t264 = true then (
                r = false
              ) else (
                ∃ x326 : Option Unit, Iter (lethelaw15_SkipsHands_l1 mark2 b126 r) 0 x326 ∧ (x326 = some () →
                r = true
                )
              )
            ) else (
              r = false
            )
          )
        )
      )
    )
  ))
end Go.Proofs.Ytbkgblhmlenocaa
