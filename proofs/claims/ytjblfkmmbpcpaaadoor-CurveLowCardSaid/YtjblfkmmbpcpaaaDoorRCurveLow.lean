/-
  RELATIONS of the package's functions, printed by this session's own program (auto.py).
-/
import Derived.Test.YtjblfkmmbpcpaaaDoorEb
import Derived.Test.YtjblfkmmbpcpaaaDoorFldT
import Derived.Test.YtjblfkmmbpcpaaaDoorRCurve
import Derived.Test.YtjblfkmmbpcpaaaDoorRLaw07
namespace Go.Proofs.YtjblfkmmbpcpaaaDoor
set_option linter.unusedSimpArgs false
set_option linter.unusedVariables false
set_option linter.unusedSectionVars false
open Go Go.LW

def lethelaw07_CurveLow_l0 (x_14 : List (Nat → BitVec 8)) (m51 : Nat → BitVec 8) (s : (Bool × Nat)) (o106 : (Bool × Nat) ⊕ Bool) : Prop :=
  match s with
  | (bad103, i_104) =>
    if i_104 < x_14.length then (
      if bad103 = true then (
        ((i_104 + 1) < 9223372036854775808) ∧
        o106 = .inl (true, (i_104 + 1))
      ) else (
        (i_104 < x_14.length) ∧
        if (eqB 32 (upd m51 31 ((m51 31) &&& (127#8))) (x_14.getD i_104 (fun _ => 0#8))) = true then (
          ((i_104 + 1) < 9223372036854775808) ∧
          o106 = .inl (true, (i_104 + 1))
        ) else (
          ((i_104 + 1) < 9223372036854775808) ∧
          o106 = .inl (false, (i_104 + 1))
        )
      )
    ) else (
      o106 = .inr bad103
    )
def lethelaw07_CurveLow (cK1 : Nat → BitVec 8) (cU2 : Nat → BitVec 8) (cWhich3 : Int) (cTop4 : Bool) (r : Bool) : Prop :=
  ∃ x_14 : List (Nat → BitVec 8), lethelaw07_low x_14 ∧
  ∃ n_26 : Int, (
    if (cWhich3.tmod 6) < 0 then (
      n_26 = ((cWhich3.tmod 6) + 6)
    ) else (
      n_26 = (cWhich3.tmod 6)
    )
  ) ∧
  ∃ m39 : Nat → BitVec 8, (
    if n_26 < 5 then (
      (0 ≤ n_26 ∧ n_26 < x_14.length) ∧
      m39 = (x_14.getD n_26.toNat (fun _ => 0#8))
    ) else (
      m39 = cU2
    )
  ) ∧
  ∃ m51 : Nat → BitVec 8, (
    if cTop4 = true then (
      m51 = (upd m39 31 ((m39 31) ^^^ (128#8)))
    ) else (
      m51 = m39
    )
  ) ∧
  ∃ x_59 : Nat → BitVec 8, ∃ x_60 : Nat, curve_Shared cK1 m51 (x_59, x_60) ∧
  ∃ bad73 : Bool, (
    if (eqB 32 (upd m51 31 ((m51 31) &&& (127#8))) (lit [237#8, 255#8, 255#8, 255#8, 255#8, 255#8, 255#8, 255#8, 255#8, 255#8, 255#8, 255#8, 255#8, 255#8, 255#8, 255#8, 255#8, 255#8, 255#8, 255#8, 255#8, 255#8, 255#8, 255#8, 255#8, 255#8, 255#8, 255#8, 255#8, 255#8, 255#8, 127#8])) = true then (
      bad73 = true
    ) else (
      if (eqB 32 (upd m51 31 ((m51 31) &&& (127#8))) (lit [238#8, 255#8, 255#8, 255#8, 255#8, 255#8, 255#8, 255#8, 255#8, 255#8, 255#8, 255#8, 255#8, 255#8, 255#8, 255#8, 255#8, 255#8, 255#8, 255#8, 255#8, 255#8, 255#8, 255#8, 255#8, 255#8, 255#8, 255#8, 255#8, 255#8, 255#8, 127#8])) = true then (
        bad73 = true
      ) else (
        bad73 = false
      )
    )
  ) ∧
  ∃ bad105 : Bool, Iter (lethelaw07_CurveLow_l0 x_14 m51) (bad73, 0) bad105 ∧
  ∃ x_124 : Bool, lethelaw07_fixed x_124 ∧
  if bad105 = true then (
    if x_124 = true then (
      if x_60 = 70 then (
        r = (eqB 32 x_59 (fun _ => 0#8))
      ) else (
        r = false
      )
    ) else (
      r = false
    )
  ) else (
    if x_124 = true then (
      if x_60 = 0 then (
        ∃ x_140 : Nat → BitVec 8, curve_Times cK1 m51 x_140 ∧
        if (eqB 32 x_59 x_140) = true then (
          r = (!(eqB 32 x_59 (fun _ => 0#8)))
        ) else (
          r = false
        )
      ) else (
        r = false
      )
    ) else (
      r = false
    )
  )
end Go.Proofs.YtjblfkmmbpcpaaaDoor
