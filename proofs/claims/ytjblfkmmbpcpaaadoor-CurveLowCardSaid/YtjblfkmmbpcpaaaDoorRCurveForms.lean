/-
  RELATIONS of the package's functions, printed by this session's own program (auto.py).
-/
import Derived.Test.YtjblfkmmbpcpaaaDoorEb
import Derived.Test.YtjblfkmmbpcpaaaDoorFldT
import Derived.Test.YtjblfkmmbpcpaaaDoorRCurve
import Derived.Test.YtjblfkmmbpcpaaaDoorRLaw07
namespace Go.Proofs.YtjblfkmmbpcpaaaDoor
set_option linter.unusedSimpArgs false
set_option linter.unusedVariables false
set_option linter.unusedSectionVars false
open Go Go.LW

def lethelaw07_CurveForms_l0  (s : (Nat × (Nat → BitVec 8))) (o57 : (Nat × (Nat → BitVec 8)) ⊕ (Nat → BitVec 8)) : Prop :=
  match s with
  | (i_54, m55) =>
    if i_54 < 32 then (
      o57 = .inl ((i_54 + 1), (upd m55 i_54 (255#8)))
    ) else (
      o57 = .inr m55
    )
def lethelaw07_CurveForms (k1 : Nat → BitVec 8) (u2 : Nat → BitVec 8) (small3 : Int) (r : Bool) : Prop :=
  ∃ x_9 : Nat → BitVec 8, curve_Times k1 u2 x_9 ∧
  ∃ x_15 : Nat → BitVec 8, curve_Clamp k1 x_15 ∧
  ∃ n_33 : Int, (
    if (small3.tmod 19) < 0 then (
      n_33 = ((small3.tmod 19) + 19)
    ) else (
      n_33 = (small3.tmod 19)
    )
  ) ∧
  ∃ m56 : Nat → BitVec 8, Iter (lethelaw07_CurveForms_l0) (0, (fun _ => 0#8)) m56 ∧
  (-9223372036854775808 ≤ (237 + n_33) ∧ (237 + n_33) ≤ 9223372036854775807) ∧
  ∃ x_70 : Bool, lethelaw07_fixed x_70 ∧
  if x_70 = true then (
    ∃ x_96 : Nat → BitVec 8, curve_Times (upd (upd k1 0 ((k1 0) ^^^ (7#8))) 31 (((upd k1 0 ((k1 0) ^^^ (7#8))) 31) ^^^ (192#8))) u2 x_96 ∧
    if (eqB 32 x_96 x_9) = true then (
      ∃ x_100 : Nat → BitVec 8, curve_Times x_15 (upd u2 31 ((u2 31) ^^^ (128#8))) x_100 ∧
      if (eqB 32 x_100 x_9) = true then (
        ∃ x_104 : Nat → BitVec 8, curve_Clamp x_15 x_104 ∧
        if (eqB 32 x_104 x_15) = true then (
          ∃ x_110 : Nat → BitVec 8, curve_Times (upd (upd k1 0 ((k1 0) ^^^ (7#8))) 31 (((upd k1 0 ((k1 0) ^^^ (7#8))) 31) ^^^ (192#8))) (upd m56 0 (BitVec.ofInt 8 (237 + n_33))) x_110 ∧
          ∃ x_113 : Nat → BitVec 8, curve_Times (upd (upd k1 0 ((k1 0) ^^^ (7#8))) 31 (((upd k1 0 ((k1 0) ^^^ (7#8))) 31) ^^^ (192#8))) (upd (fun _ => 0#8) 0 (BitVec.ofInt 8 n_33)) x_113 ∧
          r = (eqB 32 x_110 x_113)
        ) else (
          r = false
        )
      ) else (
        r = false
      )
    ) else (
      r = false
    )
  ) else (
    r = false
  )
end Go.Proofs.YtjblfkmmbpcpaaaDoor
