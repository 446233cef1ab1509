/-
  RELATIONS of the package's functions, printed by this session's own program (auto.py).
-/
import Derived.Test.YtjblfkmmbpcpaaaDoorEb
import Derived.Test.YtjblfkmmbpcpaaaDoorFldT
import Derived.Test.YtjblfkmmbpcpaaaDoorRCurve
import Derived.Test.YtjblfkmmbpcpaaaDoorRRef07
namespace Go.Proofs.YtjblfkmmbpcpaaaDoor
set_option linter.unusedSimpArgs false
set_option linter.unusedVariables false
set_option linter.unusedSectionVars false
open Go Go.LW

def lethelaw07_counted_l0 (first1 : Int) (step2 : Int) (s : (Nat × (Nat → BitVec 8))) (o28 : (Nat × (Nat → BitVec 8)) ⊕ (Nat → BitVec 8)) : Prop :=
  match s with
  | (i_25, m26) =>
    if i_25 < 32 then (
      (-9223372036854775808 ≤ (step2 * ((i_25 : Nat) : Int)) ∧ (step2 * ((i_25 : Nat) : Int)) ≤ 9223372036854775807) ∧
      (-9223372036854775808 ≤ (first1 + (step2 * ((i_25 : Nat) : Int))) ∧ (first1 + (step2 * ((i_25 : Nat) : Int))) ≤ 9223372036854775807) ∧
      o28 = .inl ((i_25 + 1), (upd m26 i_25 (BitVec.ofInt 8 (first1 + (step2 * ((i_25 : Nat) : Int))))))
    ) else (
      o28 = .inr m26
    )
def lethelaw07_counted (first1 : Int) (step2 : Int) (r : (Nat → BitVec 8)) : Prop :=
  ∃ m27 : Nat → BitVec 8, Iter (lethelaw07_counted_l0 first1 step2) (0, (fun _ => 0#8)) m27 ∧
  r = m27

def lethelaw07_fixed  (r : Bool) : Prop :=
  ∃ x_4 : Nat → BitVec 8, lethelaw07_counted 0 1 x_4 ∧
  ∃ x_7 : Nat → BitVec 8, lethelaw07_counted 255 (-1) x_7 ∧
  ∃ x_17 : Nat → BitVec 8, curve_Public x_4 x_17 ∧
  ∃ x_21 : Nat → BitVec 8, curve_Public x_7 x_21 ∧
  ∃ x_28 : Nat → BitVec 8, ∃ x_29 : Nat, curve_Shared x_4 x_21 (x_28, x_29) ∧
  ∃ x_35 : Nat → BitVec 8, ∃ x_36 : Nat, curve_Shared x_7 x_17 (x_35, x_36) ∧
  ∃ x_42 : Nat → BitVec 8, ∃ x_43 : Nat, curve_Shared x_4 (fun _ => 0#8) (x_42, x_43) ∧
  if x_29 = 0 then (
    if x_36 = 0 then (
      if x_43 = 70 then (
        if (eqB 32 x_28 x_35) = true then (
          if (x_17 0) = 143#8 then (
            if (x_17 31) = 95#8 then (
              if (x_21 0) = 62#8 then (
                if (x_21 31) = 21#8 then (
                  if (x_28 0) = 48#8 then (
                    r = (decide ((x_28 31) = 61#8))
                  ) else (
                    r = false
                  )
                ) else (
                  r = false
                )
              ) else (
                r = false
              )
            ) else (
              r = false
            )
          ) else (
            r = false
          )
        ) else (
          r = false
        )
      ) else (
        r = false
      )
    ) else (
      r = false
    )
  ) else (
    r = false
  )

def lethelaw07_pair (draw1 : List Byte) (r : Bool) : Prop :=
  (draw1.length + ([85#8, 170#8]).length ≤ 9223372036854775807) ∧
  (0 ≤ draw1.length ∧ draw1.length ≤ (draw1 ++ [85#8, 170#8]).length) ∧
  ∃ x_11 : Nat → BitVec 8, ∃ x_12 : Nat → BitVec 8, ∃ x_13 : Nat, curve_NewPair (seg (draw1 ++ [85#8, 170#8]) 0 draw1.length) (x_11, x_12, x_13) ∧
  ∃ x_19 : Nat → BitVec 8, ∃ x_20 : Nat → BitVec 8, ∃ x_21 : Nat, letheref07_NewPair draw1 (x_19, x_20, x_21) ∧
  if ((eqB 32 x_11 x_19) && ((eqB 32 x_12 x_20) && true)) = true then (
    if x_13 = x_21 then (
      (draw1.length + ([85#8, 170#8]).length ≤ 9223372036854775807) ∧
      r = (decide ((draw1 ++ [85#8, 170#8]) = (draw1 ++ [85#8, 170#8])))
    ) else (
      r = false
    )
  ) else (
    r = false
  )

def lethelaw07_plays (sKind1 : Int) (sK2 : Nat → BitVec 8) (sU3 : Nat → BitVec 8) (sDraw4 : List Byte) (r : Bool) : Prop :=
  if sKind1 = 1 then (
    ∃ x_14 : Nat → BitVec 8, curve_Clamp sK2 x_14 ∧
    ∃ x_17 : Nat → BitVec 8, letheref07_Clamp sK2 x_17 ∧
    r = (eqB 32 x_14 x_17)
  ) else (
    if sKind1 = 2 then (
      ∃ x_25 : Nat → BitVec 8, curve_Times sK2 sU3 x_25 ∧
      ∃ x_28 : Nat → BitVec 8, letheref07_Times sK2 sU3 x_28 ∧
      r = (eqB 32 x_25 x_28)
    ) else (
      if sKind1 = 3 then (
        ∃ x_36 : Nat → BitVec 8, curve_Public sK2 x_36 ∧
        ∃ x_39 : Nat → BitVec 8, letheref07_Public sK2 x_39 ∧
        r = (eqB 32 x_36 x_39)
      ) else (
        if sKind1 = 4 then (
          ∃ x_46 : Nat → BitVec 8, ∃ x_47 : Nat, curve_Shared sK2 sU3 (x_46, x_47) ∧
          ∃ x_53 : Nat → BitVec 8, ∃ x_54 : Nat, letheref07_Shared sK2 sU3 (x_53, x_54) ∧
          if (eqB 32 x_46 x_53) = true then (
            r = (decide (x_47 = x_54))
          ) else (
            r = false
          )
        ) else (
          if sKind1 = 5 then (
            ∃ x_66 : Bool, lethelaw07_pair sDraw4 x_66 ∧
            r = x_66
          ) else (
            r = true
          )
        )
      )
    )
  )
end Go.Proofs.YtjblfkmmbpcpaaaDoor
