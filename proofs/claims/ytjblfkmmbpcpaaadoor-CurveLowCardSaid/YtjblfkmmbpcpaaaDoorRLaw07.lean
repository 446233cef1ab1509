/-
  RELATIONS of the package's functions, printed by this session's own program (auto.py).
-/
import Derived.Test.YtjblfkmmbpcpaaaDoorEb
import Derived.Test.YtjblfkmmbpcpaaaDoorFldT
import Derived.Test.YtjblfkmmbpcpaaaDoorRCurve
namespace Go.Proofs.YtjblfkmmbpcpaaaDoor
set_option linter.unusedSimpArgs false
set_option linter.unusedVariables false
set_option linter.unusedSectionVars false
open Go Go.LW

def lethelaw07_counted_l0 (first1 : Int) (step2 : Int) (s : (Nat × (Nat → BitVec 8))) (o28 : (Nat × (Nat → BitVec 8)) ⊕ (Nat → BitVec 8)) : Prop :=
  match s with
  | (i_25, m26) =>
    if i_25 < 32 then (
      (-9223372036854775808 ≤ (step2 * ((i_25 : Nat) : Int)) ∧ (step2 * ((i_25 : Nat) : Int)) ≤ 9223372036854775807) ∧
      (-9223372036854775808 ≤ (first1 + (step2 * ((i_25 : Nat) : Int))) ∧ (first1 + (step2 * ((i_25 : Nat) : Int))) ≤ 9223372036854775807) ∧
      o28 = .inl ((i_25 + 1), (upd m26 i_25 (BitVec.ofInt 8 (first1 + (step2 * ((i_25 : Nat) : Int))))))
    ) else (
      o28 = .inr m26
    )
def lethelaw07_counted (first1 : Int) (step2 : Int) (r : (Nat → BitVec 8)) : Prop :=
  ∃ m27 : Nat → BitVec 8, Iter (lethelaw07_counted_l0 first1 step2) (0, (fun _ => 0#8)) m27 ∧
  r = m27

def lethelaw07_fixed  (r : Bool) : Prop :=
  ∃ x_4 : Nat → BitVec 8, lethelaw07_counted 0 1 x_4 ∧
  ∃ x_7 : Nat → BitVec 8, lethelaw07_counted 255 (-1) x_7 ∧
  ∃ x_17 : Nat → BitVec 8, curve_Public x_4 x_17 ∧
  ∃ x_21 : Nat → BitVec 8, curve_Public x_7 x_21 ∧
  ∃ x_28 : Nat → BitVec 8, ∃ x_29 : Nat, curve_Shared x_4 x_21 (x_28, x_29) ∧
  ∃ x_35 : Nat → BitVec 8, ∃ x_36 : Nat, curve_Shared x_7 x_17 (x_35, x_36) ∧
  ∃ x_42 : Nat → BitVec 8, ∃ x_43 : Nat, curve_Shared x_4 (fun _ => 0#8) (x_42, x_43) ∧
  if x_29 = 0 then (
    if x_36 = 0 then (
      if x_43 = 70 then (
        if (eqB 32 x_28 x_35) = true then (
          if (x_17 0) = 143#8 then (
            if (x_17 31) = 95#8 then (
              if (x_21 0) = 62#8 then (
                if (x_21 31) = 21#8 then (
                  if (x_28 0) = 48#8 then (
                    r = (decide ((x_28 31) = 61#8))
                  ) else (
                    r = false
                  )
                ) else (
                  r = false
                )
              ) else (
                r = false
              )
            ) else (
              r = false
            )
          ) else (
            r = false
          )
        ) else (
          r = false
        )
      ) else (
        r = false
      )
    ) else (
      r = false
    )
  ) else (
    r = false
  )

def lethelaw07_reduced_l0 (k1 : Nat → BitVec 8) (r : Bool) (i_65 : Int) (o66 : Int ⊕ (Option Unit)) : Prop :=
  if 0 < i_65 then (
    ∃ full76 : BitVec 8, (
      if i_65 = 31 then (
        full76 = 127#8
      ) else (
        full76 = 255#8
      )
    ) ∧
    (0 ≤ i_65 ∧ i_65 < 32) ∧
    if (k1 i_65.toNat) ≠ full76 then (
      o66 = .inr none ∧ r = true
    ) else (
      (-9223372036854775808 ≤ (i_65 - 1) ∧ (i_65 - 1) ≤ 9223372036854775807) ∧
      o66 = .inl (i_65 - 1)
    )
  ) else (
    o66 = .inr (some ())
  )
def lethelaw07_reduced (k1 : Nat → BitVec 8) (r : Bool) : Prop :=
  if (128#8).toNat ≤ (k1 31).toNat then (
    r = false
  ) else (
    ∃ x66 : Option Unit, Iter (lethelaw07_reduced_l0 k1 r) 31 x66 ∧ (x66 = some () →
    r = (decide ((k1 0).toNat < (237#8).toNat))
    )
  )

def lethelaw07_low_l0  (s : (Nat × (Nat → BitVec 8))) (o25 : (Nat × (Nat → BitVec 8)) ⊕ (Nat → BitVec 8)) : Prop :=
  match s with
  | (i_22, m23) =>
    if i_22 < 31 then (
      o25 = .inl ((i_22 + 1), (upd m23 i_22 (255#8)))
    ) else (
      o25 = .inr m23
    )
def lethelaw07_low  (r : (List (Nat → BitVec 8))) : Prop :=
  ∃ m24 : Nat → BitVec 8, Iter (lethelaw07_low_l0) (1, (upd (fun _ => 0#8) 0 (236#8))) m24 ∧
  r = ([(fun _ => 0#8), (upd (fun _ => 0#8) 0 (1#8)), (upd m24 31 (127#8)), (lit [224#8, 235#8, 122#8, 124#8, 59#8, 65#8, 184#8, 174#8, 22#8, 86#8, 227#8, 250#8, 241#8, 159#8, 196#8, 106#8, 218#8, 9#8, 141#8, 235#8, 156#8, 50#8, 177#8, 253#8, 134#8, 98#8, 5#8, 22#8, 95#8, 73#8, 184#8, 0#8]), (lit [95#8, 156#8, 149#8, 188#8, 163#8, 80#8, 140#8, 36#8, 177#8, 208#8, 177#8, 85#8, 156#8, 131#8, 239#8, 91#8, 4#8, 68#8, 92#8, 196#8, 88#8, 28#8, 142#8, 134#8, 216#8, 34#8, 78#8, 221#8, 208#8, 159#8, 17#8, 87#8])] : List (Nat → BitVec 8))
end Go.Proofs.YtjblfkmmbpcpaaaDoor
