/-
  RELATIONS of the package's functions, printed by this session's own program (auto.py).
-/
import Derived.Test.YtjclppnbbpnfnaaDoorEb
import Derived.Test.YtjclppnbbpnfnaaDoorFldT
import Derived.Test.YtjclppnbbpnfnaaDoorShaM
import Derived.Test.YtjclppnbbpnfnaaDoorRLaw17
import Derived.Test.YtjclppnbbpnfnaaDoorRRef17
namespace Go.Proofs.YtjclppnbbpnfnaaDoor
set_option linter.unusedSimpArgs false
set_option linter.unusedVariables false
set_option linter.unusedSectionVars false
open Go Go.LW

def lethelaw17_AgreeMeets (a1 : Nat → BitVec 8) (e_2 : Nat → BitVec 8) (b3 : Nat → BitVec 8) (p4 : Nat → BitVec 8) (number5 : BitVec 32) (r : Bool) : Prop :=
  ∃ x_15 : Nat → BitVec 8, ∃ x_16 : Nat → BitVec 8, lethelaw17_pair a1 (x_15, x_16) ∧
  ∃ x_20 : Nat → BitVec 8, ∃ x_21 : Nat → BitVec 8, lethelaw17_pair e_2 (x_20, x_21) ∧
  ∃ x_25 : Nat → BitVec 8, ∃ x_26 : Nat → BitVec 8, lethelaw17_pair b3 (x_25, x_26) ∧
  ∃ x_30 : Nat → BitVec 8, ∃ x_31 : Nat → BitVec 8, lethelaw17_pair p4 (x_30, x_31) ∧
  ∃ x_40 : Nat → BitVec 8, ∃ x_41 : Nat → BitVec 8, ∃ x_42 : Nat → BitVec 8, ∃ x_43 : Nat → BitVec 8, ∃ x_44 : Nat → BitVec 8, ∃ x_45 : BitVec 32, ∃ x_46 : Nat, lethelaw17_start x_15 x_16 x_20 x_21 x_26 number5 x_31 (x_40, x_41, x_42, x_43, x_44, x_45, x_46) ∧
  if number5 = 0#32 then (
    if ((eqB 32 x_40 (fun _ => 0#8)) && ((eqB 16 x_41 (fun _ => 0#8)) && ((eqB 64 x_42 (fun _ => 0#8)) && (((eqB 32 x_43 (fun _ => 0#8)) && ((eqB 32 x_44 (fun _ => 0#8)) && ((decide (x_45 = 0#32)) && true))) && ((decide ((x_46 : Nat) = 170)) && true))))) = true then (
      ∃ x_56 : Nat → BitVec 8, ∃ x_57 : Nat → BitVec 8, ∃ x_58 : Nat → BitVec 8, ∃ x_59 : Nat → BitVec 8, ∃ x_60 : Nat → BitVec 8, ∃ x_61 : BitVec 32, ∃ x_62 : Nat, lethelaw17_meet x_25 x_26 x_30 x_31 x_16 x_21 (0#32) (x_56, x_57, x_58, x_59, x_60, x_61, x_62) ∧
      r = ((eqB 32 x_56 (fun _ => 0#8)) && ((eqB 16 x_57 (fun _ => 0#8)) && ((eqB 64 x_58 (fun _ => 0#8)) && (((eqB 32 x_59 (fun _ => 0#8)) && ((eqB 32 x_60 (fun _ => 0#8)) && ((decide (x_61 = 0#32)) && true))) && ((decide ((x_62 : Nat) = 170)) && true)))))
    ) else (
      r = false
    )
  ) else (
    ∃ x_71 : Nat → BitVec 8, ∃ x_72 : Nat → BitVec 8, ∃ x_73 : Nat → BitVec 8, ∃ x_74 : Nat → BitVec 8, ∃ x_75 : Nat → BitVec 8, ∃ x_76 : BitVec 32, ∃ x_77 : Nat, lethelaw17_meet x_25 x_26 x_30 x_31 x_16 x_21 number5 (x_71, x_72, x_73, x_74, x_75, x_76, x_77) ∧
    if x_46 ≠ 0 then (
      if x_46 = x_77 then (
        r = (decide (x_46 = 70))
      ) else (
        r = false
      )
    ) else (
      if x_77 ≠ 0 then (
        if x_46 = x_77 then (
          r = (decide (x_46 = 70))
        ) else (
          r = false
        )
      ) else (
        if ((eqB 32 x_43 x_16) && ((eqB 32 x_44 x_21) && ((decide (x_45 = number5)) && true))) = true then (
          if (eqB 32 x_40 x_71) = true then (
            if (eqB 16 x_41 x_72) = true then (
              if (eqB 64 x_42 x_73) = true then (
                ∃ x_107 : Nat → BitVec 8, letheref17_Bind x_16 x_26 x_107 ∧
                r = (eqB 64 x_42 x_107)
              ) else (
                r = false
              )
            ) else (
              r = false
            )
          ) else (
            r = false
          )
        ) else (
          r = false
        )
      )
    )
  )
end Go.Proofs.YtjclppnbbpnfnaaDoor
