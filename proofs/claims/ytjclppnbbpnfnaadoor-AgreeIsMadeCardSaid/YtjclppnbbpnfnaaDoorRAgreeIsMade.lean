/-
  RELATIONS of the package's functions, printed by this session's own program (auto.py).
-/
import Derived.Test.YtjclppnbbpnfnaaDoorEb
import Derived.Test.YtjclppnbbpnfnaaDoorFldT
import Derived.Test.YtjclppnbbpnfnaaDoorShaM
import Derived.Test.YtjclppnbbpnfnaaDoorRCurve
import Derived.Test.YtjclppnbbpnfnaaDoorRKdf
import Derived.Test.YtjclppnbbpnfnaaDoorRLaw17
namespace Go.Proofs.YtjclppnbbpnfnaaDoor
set_option linter.unusedSimpArgs false
set_option linter.unusedVariables false
set_option linter.unusedSectionVars false
open Go Go.LW

def lethelaw17_AgreeIsMade_l0  (s : ((List Byte) × Nat)) (o87 : ((List Byte) × Nat) ⊕ (List Byte)) : Prop :=
  match s with
  | (in_84, i_85) =>
    if i_85 < 32 then (
      (i_85 < (List.replicate 32 0#8).length) ∧
      o87 = .inl ((in_84.set i_85 (255#8)), (i_85 + 1))
    ) else (
      o87 = .inr in_84
    )
def lethelaw17_AgreeIsMade (ownPriv1 : Nat → BitVec 8) (ownPub2 : Nat → BitVec 8) (oncePriv3 : Nat → BitVec 8) (oncePub4 : Nat → BitVec 8) (offerIdentity5 : Nat → BitVec 8) (offerPrekey6 : BitVec 32) (offerKey7 : Nat → BitVec 8) (r : Bool) : Prop :=
  ∃ x_16 : Nat → BitVec 8, ∃ x_17 : Nat → BitVec 8, ∃ x_18 : Nat → BitVec 8, ∃ x_19 : Nat → BitVec 8, ∃ x_20 : Nat → BitVec 8, ∃ x_21 : BitVec 32, ∃ x_22 : Nat, lethelaw17_start ownPriv1 ownPub2 oncePriv3 oncePub4 offerIdentity5 (offerPrekey6 ||| (1#32)) offerKey7 (x_16, x_17, x_18, x_19, x_20, x_21, x_22) ∧
  ∃ x_28 : Nat → BitVec 8, ∃ x_29 : Nat, curve_Shared ownPriv1 offerKey7 (x_28, x_29) ∧
  ∃ x_35 : Nat → BitVec 8, ∃ x_36 : Nat, curve_Shared oncePriv3 offerIdentity5 (x_35, x_36) ∧
  ∃ x_42 : Nat → BitVec 8, ∃ x_43 : Nat, curve_Shared oncePriv3 offerKey7 (x_42, x_43) ∧
  if x_29 ≠ 0 then (
    r = ((eqB 32 x_16 (fun _ => 0#8)) && ((eqB 16 x_17 (fun _ => 0#8)) && ((eqB 64 x_18 (fun _ => 0#8)) && (((eqB 32 x_19 (fun _ => 0#8)) && ((eqB 32 x_20 (fun _ => 0#8)) && ((decide (x_21 = 0#32)) && true))) && ((decide ((x_22 : Nat) = 70)) && true)))))
  ) else (
    if x_36 ≠ 0 then (
      r = ((eqB 32 x_16 (fun _ => 0#8)) && ((eqB 16 x_17 (fun _ => 0#8)) && ((eqB 64 x_18 (fun _ => 0#8)) && (((eqB 32 x_19 (fun _ => 0#8)) && ((eqB 32 x_20 (fun _ => 0#8)) && ((decide (x_21 = 0#32)) && true))) && ((decide ((x_22 : Nat) = 70)) && true)))))
    ) else (
      if x_43 ≠ 0 then (
        r = ((eqB 32 x_16 (fun _ => 0#8)) && ((eqB 16 x_17 (fun _ => 0#8)) && ((eqB 64 x_18 (fun _ => 0#8)) && (((eqB 32 x_19 (fun _ => 0#8)) && ((eqB 32 x_20 (fun _ => 0#8)) && ((decide (x_21 = 0#32)) && true))) && ((decide ((x_22 : Nat) = 70)) && true)))))
      ) else (
        ∃ in_86 : List Byte, Iter (lethelaw17_AgreeIsMade_l0) ((List.replicate 32 0#8), 0) in_86 ∧
        ((List.replicate 32 0#8).length + 32 ≤ 140737488355328) ∧
        ((in_86 ++ (dl 32 x_28)).length + 32 ≤ 140737488355328) ∧
        (((in_86 ++ (dl 32 x_28)) ++ (dl 32 x_35)).length + 32 ≤ 140737488355328) ∧
        ∃ x_108 : List Byte, ∃ x_109 : Nat, kdf_Derive (List.replicate 32 0#8) (((in_86 ++ (dl 32 x_28)) ++ (dl 32 x_35)) ++ (dl 32 x_42)) (dl 11 (lit ([108#8, 101#8, 116#8, 104#8, 101#8, 32#8, 102#8, 105#8, 114#8, 115#8, 116#8] : List Byte))) 48 (x_108, x_109) ∧
        if x_109 ≠ 0 then (
          r = false
        ) else (
          if x_108.length ≠ 48 then (
            r = false
          ) else (
            if x_22 ≠ 0 then (
              r = false
            ) else (
              (0 ≤ 32 ∧ 32 ≤ x_108.length) ∧
              if (dl 32 x_16) = (seg x_108 0 32) then (
                (32 ≤ x_108.length ∧ x_108.length ≤ x_108.length) ∧
                if (dl 16 x_17) = (seg x_108 32 x_108.length) then (
                  r = ((eqB 32 x_19 ownPub2) && ((eqB 32 x_20 oncePub4) && ((decide (x_21 = (offerPrekey6 ||| (1#32)))) && true)))
                ) else (
                  r = false
                )
              ) else (
                r = false
              )
            )
          )
        )
      )
    )
  )
end Go.Proofs.YtjclppnbbpnfnaaDoor
