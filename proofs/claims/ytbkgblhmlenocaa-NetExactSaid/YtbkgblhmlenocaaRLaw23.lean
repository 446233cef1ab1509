/-
  RELATIONS of the package's functions, printed by this session's own program (auto.py).
-/
import Derived.Test.YtbkgblhmlenocaaEd
import Derived.Test.YtbkgblhmlenocaaRNet
import Derived.Test.YtbkgblhmlenocaaRRef23
namespace Go.Proofs.Ytbkgblhmlenocaa
set_option linter.unusedSimpArgs false
set_option linter.unusedVariables false
set_option linter.unusedSectionVars false
open Go Go.LW

def lethelaw23_same (aNumber1 : Int) (aFrom2 : Int) (aTo3 : Int) (aBytes4 : List Byte) (bNumber5 : Int) (bFrom6 : Int) (bTo7 : Int) (bBytes8 : List Byte) (r : Bool) : Prop :=
  if aNumber1 = bNumber5 then (
    if aFrom2 = bFrom6 then (
      if aTo3 = bTo7 then (
        r = (decide (aBytes4 = bBytes8))
      ) else (
        r = false
      )
    ) else (
      r = false
    )
  ) else (
    r = false
  )

def lethelaw23_sameAll_l0 (a1 : List (Int × Int × Int × (List Byte))) (b2 : List (Int × Int × Int × (List Byte))) (r : Bool) (i_42 : Nat) (o43 : Nat ⊕ (Option Unit)) : Prop :=
  if i_42 < a1.length then (
    (i_42 < a1.length) ∧
    (i_42 < b2.length) ∧
    ∃ x_56 : Bool, lethelaw23_same ((a1.getD i_42 ((0 : Int), (0 : Int), (0 : Int), ([] : List Byte))).1) ((a1.getD i_42 ((0 : Int), (0 : Int), (0 : Int), ([] : List Byte))).2.1) ((a1.getD i_42 ((0 : Int), (0 : Int), (0 : Int), ([] : List Byte))).2.2.1) ((a1.getD i_42 ((0 : Int), (0 : Int), (0 : Int), ([] : List Byte))).2.2.2) ((b2.getD i_42 ((0 : Int), (0 : Int), (0 : Int), ([] : List Byte))).1) ((b2.getD i_42 ((0 : Int), (0 : Int), (0 : Int), ([] : List Byte))).2.1) ((b2.getD i_42 ((0 : Int), (0 : Int), (0 : Int), ([] : List Byte))).2.2.1) ((b2.getD i_42 ((0 : Int), (0 : Int), (0 : Int), ([] : List Byte))).2.2.2) x_56 ∧
    if x_56 = true then (
      ((i_42 + 1) < 9223372036854775808) ∧
      o43 = .inl (i_42 + 1)
    ) else (
      o43 = .inr none ∧ r = false
    )
  ) else (
    o43 = .inr (some ())
  )
def lethelaw23_sameAll (a1 : List (Int × Int × Int × (List Byte))) (b2 : List (Int × Int × Int × (List Byte))) (r : Bool) : Prop :=
  if a1.length ≠ b2.length then (
    r = false
  ) else (
    ∃ x43 : Option Unit, Iter (lethelaw23_sameAll_l0 a1 b2 r) 0 x43 ∧ (x43 = some () →
    r = true
    )
  )

def lethelaw23_step_l0 (oBytes15 : List Byte) (s : ((List Byte) × Nat)) (o99 : ((List Byte) × Nat) ⊕ Unit) : Prop :=
  match s with
  | (b97, i_98) =>
    if i_98 < (([] : List Byte) ++ oBytes15).length then (
      (i_98 < (([] : List Byte) ++ oBytes15).length) ∧
      (i_98 < (([] : List Byte) ++ oBytes15).length) ∧
      ((i_98 + 1) < 9223372036854775808) ∧
      o99 = .inl ((b97.set i_98 ((lit b97 i_98) ^^^ (85#8))), (i_98 + 1))
    ) else (
      o99 = .inr ()
    )
def lethelaw23_step (nnodes2 : Int) (nmost3 : Int) (nflights4 : List (Int × (Int × Int × Int × (List Byte)))) (nnext5 : Int) (rNodes7 : Int) (rMost8 : Int) (rRow9 : List (Int × Int × Int × (List Byte))) (rNumber10 : Int) (oKind11 : Int) (oK12 : Int) (oFrom13 : Int) (oTo14 : Int) (oBytes15 : List Byte) (r : (Bool × Int × (List (Int × Int × Int × (List Byte))) × Int × (List (Int × (Int × Int × Int × (List Byte)))))) : Prop :=
  if oKind11 = 1 then (
    (0 + oBytes15.length ≤ 140737488355328) ∧
    ∃ x_29 : Int, ∃ x_30 : Nat, ∃ x_31 : Int, ∃ x_32 : List (Int × (Int × Int × Int × (List Byte))), net_Net_Send nnodes2 nmost3 nflights4 nnext5 oFrom13 oTo14 (([] : List Byte) ++ oBytes15) (x_29, x_30, x_31, x_32) ∧
    ∃ x_42 : Int, ∃ x_43 : Nat, ∃ x_44 : List (Int × Int × Int × (List Byte)), ∃ x_45 : Int, letheref23_Net_Send rNodes7 rMost8 rRow9 rNumber10 oFrom13 oTo14 oBytes15 (x_42, x_43, x_44, x_45) ∧
    if x_29 ≠ x_42 then (
      r = (false, x_31, x_44, x_45, x_32)
    ) else (
      if x_30 ≠ x_43 then (
        r = (false, x_31, x_44, x_45, x_32)
      ) else (
        if (([] : List Byte) ++ oBytes15) = oBytes15 then (
          Iter (lethelaw23_step_l0 oBytes15) ((([] : List Byte) ++ oBytes15), 0) () ∧
          r = (true, x_31, x_44, x_45, x_32)
        ) else (
          r = (false, x_31, x_44, x_45, x_32)
        )
      )
    )
  ) else (
    if oKind11 = 2 then (
      ∃ x_122 : Int, ∃ x_123 : Int, ∃ x_124 : Int, ∃ x_125 : List Byte, ∃ x_126 : Nat, ∃ x_127 : List (Int × (Int × Int × Int × (List Byte))), net_Net_Deliver nnodes2 nmost3 nflights4 nnext5 oK12 (x_122, x_123, x_124, x_125, x_126, x_127) ∧
      ∃ x_143 : Int, ∃ x_144 : Int, ∃ x_145 : Int, ∃ x_146 : List Byte, ∃ x_147 : Nat, ∃ x_148 : List (Int × Int × Int × (List Byte)), letheref23_Net_Deliver rNodes7 rMost8 rRow9 rNumber10 oK12 (x_143, x_144, x_145, x_146, x_147, x_148) ∧
      if x_126 = x_147 then (
        ∃ x_169 : Bool, lethelaw23_same x_122 x_123 x_124 x_125 x_143 x_144 x_145 x_146 x_169 ∧
        r = (x_169, nnext5, x_148, rNumber10, x_127)
      ) else (
        r = (false, nnext5, x_148, rNumber10, x_127)
      )
    ) else (
      if oKind11 = 3 then (
        ∃ x_179 : Nat, ∃ x_180 : List (Int × (Int × Int × Int × (List Byte))), net_Net_Drop nnodes2 nmost3 nflights4 nnext5 oK12 (x_179, x_180) ∧
        ∃ x_189 : Nat, ∃ x_190 : List (Int × Int × Int × (List Byte)), letheref23_Net_Drop rNodes7 rMost8 rRow9 rNumber10 oK12 (x_189, x_190) ∧
        r = ((decide (x_179 = x_189)), nnext5, x_190, rNumber10, x_180)
      ) else (
        if oKind11 = 4 then (
          ∃ x_207 : Int, ∃ x_208 : Nat, ∃ x_209 : Int, ∃ x_210 : List (Int × (Int × Int × Int × (List Byte))), net_Net_Copy nnodes2 nmost3 nflights4 nnext5 oK12 (x_207, x_208, x_209, x_210) ∧
          ∃ x_220 : Int, ∃ x_221 : Nat, ∃ x_222 : List (Int × Int × Int × (List Byte)), ∃ x_223 : Int, letheref23_Net_Copy rNodes7 rMost8 rRow9 rNumber10 oK12 (x_220, x_221, x_222, x_223) ∧
          if x_207 = x_220 then (
            r = ((decide (x_208 = x_221)), x_209, x_222, x_223, x_210)
          ) else (
            r = (false, x_209, x_222, x_223, x_210)
          )
        ) else (
          if oKind11 = 5 then (
            ∃ x_243 : List (Int × Int × Int × (List Byte)), net_Net_Flights nnodes2 nmost3 nflights4 nnext5 x_243 ∧
            ∃ x_257 : List (Int × Int × Int × (List Byte)), ∃ x_258 : List (Int × Int × Int × (List Byte)), letheref23_Net_Flights rNodes7 rMost8 rRow9 rNumber10 (x_257, x_258) ∧
            ∃ x_276 : Bool, lethelaw23_sameAll x_243 x_257 x_276 ∧
            if x_276 = true then (
              ∃ x_281 : Int, net_Net_Next nnodes2 nmost3 nflights4 nnext5 x_281 ∧
              ∃ x_292 : Int, letheref23_Net_Next rNodes7 rMost8 x_258 rNumber10 x_292 ∧
              r = ((decide (x_281 = x_292)), nnext5, x_258, rNumber10, nflights4)
            ) else (
              r = (false, nnext5, x_258, rNumber10, nflights4)
            )
          ) else (
            r = (true, nnext5, rRow9, rNumber10, nflights4)
          )
        )
      )
    )
  )
end Go.Proofs.Ytbkgblhmlenocaa
