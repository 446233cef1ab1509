/-
  RELATIONS of the package's functions, printed by this session's own program (auto.py).
-/
import Derived.Test.YtjclppnbbpnfnaaDoorEb
import Derived.Test.YtjclppnbbpnfnaaDoorFldT
import Derived.Test.YtjclppnbbpnfnaaDoorShaM
import Derived.Test.YtjclppnbbpnfnaaDoorRLaw17
namespace Go.Proofs.YtjclppnbbpnfnaaDoor
set_option linter.unusedSimpArgs false
set_option linter.unusedVariables false
set_option linter.unusedSectionVars false
open Go Go.LW

def lethelaw17_AgreePoints (k1 : Nat → BitVec 8) (which2 : Int) (where_3 : Int) (r : Bool) : Prop :=
  ∃ m21 : Nat → BitVec 8, (
    if (((which2.tmod 4) + 4).tmod 4) = 1 then (
      m21 = (upd (fun _ => 0#8) 0 (1#8))
    ) else (
      if (((which2.tmod 4) + 4).tmod 4) = 2 then (
        m21 = (lit [237#8, 255#8, 255#8, 255#8, 255#8, 255#8, 255#8, 255#8, 255#8, 255#8, 255#8, 255#8, 255#8, 255#8, 255#8, 255#8, 255#8, 255#8, 255#8, 255#8, 255#8, 255#8, 255#8, 255#8, 255#8, 255#8, 255#8, 255#8, 255#8, 255#8, 255#8, 127#8])
      ) else (
        if (((which2.tmod 4) + 4).tmod 4) = 3 then (
          m21 = (lit [238#8, 255#8, 255#8, 255#8, 255#8, 255#8, 255#8, 255#8, 255#8, 255#8, 255#8, 255#8, 255#8, 255#8, 255#8, 255#8, 255#8, 255#8, 255#8, 255#8, 255#8, 255#8, 255#8, 255#8, 255#8, 255#8, 255#8, 255#8, 255#8, 255#8, 255#8, 127#8])
        ) else (
          m21 = (fun _ => 0#8)
        )
      )
    )
  ) ∧
  ∃ x_38 : Nat → BitVec 8, ∃ x_39 : Nat → BitVec 8, lethelaw17_pair k1 (x_38, x_39) ∧
  ∃ x_51 : Nat → BitVec 8, ∃ x_52 : Nat → BitVec 8, ∃ x_53 : Nat → BitVec 8, ∃ x_54 : Nat → BitVec 8, ∃ x_55 : Nat → BitVec 8, ∃ x_56 : BitVec 32, ∃ x_57 : Nat, lethelaw17_start x_38 x_39 x_38 x_39 x_39 (1#32) x_39 (x_51, x_52, x_53, x_54, x_55, x_56, x_57) ∧
  if x_57 ≠ 0 then (
    r = false
  ) else (
    ∃ x_83 : Nat → BitVec 8, ∃ x_84 : Nat → BitVec 8, ∃ x_85 : Nat → BitVec 8, ∃ x_86 : Nat → BitVec 8, ∃ x_87 : Nat → BitVec 8, ∃ x_88 : BitVec 32, ∃ x_89 : Nat, lethelaw17_meet x_38 x_39 x_38 x_39 x_39 x_39 (1#32) (x_83, x_84, x_85, x_86, x_87, x_88, x_89) ∧
    if (eqB 32 x_83 x_51) = true then (
      ∃ m101 : Nat → BitVec 8, ∃ m102 : Nat → BitVec 8, ∃ m103 : Nat → BitVec 8, ∃ m104 : Nat → BitVec 8, (
        if (where_3 % 2) = 0 then (
          m101 = m21 ∧ m102 = x_39 ∧ m103 = m21 ∧ m104 = x_39
        ) else (
          m101 = x_39 ∧ m102 = m21 ∧ m103 = x_39 ∧ m104 = m21
        )
      ) ∧
      ∃ x_148 : Nat → BitVec 8, ∃ x_149 : Nat → BitVec 8, ∃ x_150 : Nat → BitVec 8, ∃ x_151 : Nat → BitVec 8, ∃ x_152 : Nat → BitVec 8, ∃ x_153 : BitVec 32, ∃ x_154 : Nat, lethelaw17_start x_38 x_39 x_38 x_39 m103 (1#32) m104 (x_148, x_149, x_150, x_151, x_152, x_153, x_154) ∧
      if ((eqB 32 x_148 (fun _ => 0#8)) && ((eqB 16 x_149 (fun _ => 0#8)) && ((eqB 64 x_150 (fun _ => 0#8)) && (((eqB 32 x_151 (fun _ => 0#8)) && ((eqB 32 x_152 (fun _ => 0#8)) && ((decide (x_153 = 0#32)) && true))) && ((decide ((x_154 : Nat) = 70)) && true))))) = true then (
        ∃ x_158 : Nat → BitVec 8, ∃ x_159 : Nat → BitVec 8, ∃ x_160 : Nat → BitVec 8, ∃ x_161 : Nat → BitVec 8, ∃ x_162 : Nat → BitVec 8, ∃ x_163 : BitVec 32, ∃ x_164 : Nat, lethelaw17_meet x_38 x_39 x_38 x_39 m101 m102 (1#32) (x_158, x_159, x_160, x_161, x_162, x_163, x_164) ∧
        if ((eqB 32 x_158 (fun _ => 0#8)) && ((eqB 16 x_159 (fun _ => 0#8)) && ((eqB 64 x_160 (fun _ => 0#8)) && (((eqB 32 x_161 (fun _ => 0#8)) && ((eqB 32 x_162 (fun _ => 0#8)) && ((decide (x_163 = 0#32)) && true))) && ((decide ((x_164 : Nat) = 70)) && true))))) = true then (
          ∃ x_176 : Nat → BitVec 8, ∃ x_177 : Nat → BitVec 8, ∃ x_178 : Nat → BitVec 8, ∃ x_179 : Nat → BitVec 8, ∃ x_180 : Nat → BitVec 8, ∃ x_181 : BitVec 32, ∃ x_182 : Nat, lethelaw17_start x_38 x_39 x_38 x_39 m103 (0#32) m104 (x_176, x_177, x_178, x_179, x_180, x_181, x_182) ∧
          if ((eqB 32 x_176 (fun _ => 0#8)) && ((eqB 16 x_177 (fun _ => 0#8)) && ((eqB 64 x_178 (fun _ => 0#8)) && (((eqB 32 x_179 (fun _ => 0#8)) && ((eqB 32 x_180 (fun _ => 0#8)) && ((decide (x_181 = 0#32)) && true))) && ((decide ((x_182 : Nat) = 170)) && true))))) = true then (
            ∃ x_186 : Nat → BitVec 8, ∃ x_187 : Nat → BitVec 8, ∃ x_188 : Nat → BitVec 8, ∃ x_189 : Nat → BitVec 8, ∃ x_190 : Nat → BitVec 8, ∃ x_191 : BitVec 32, ∃ x_192 : Nat, lethelaw17_meet x_38 x_39 x_38 x_39 m101 m102 (0#32) (x_186, x_187, x_188, x_189, x_190, x_191, x_192) ∧
            r = ((eqB 32 x_186 (fun _ => 0#8)) && ((eqB 16 x_187 (fun _ => 0#8)) && ((eqB 64 x_188 (fun _ => 0#8)) && (((eqB 32 x_189 (fun _ => 0#8)) && ((eqB 32 x_190 (fun _ => 0#8)) && ((decide (x_191 = 0#32)) && true))) && ((decide ((x_192 : Nat) = 170)) && true)))))
          ) else (
            r = false
          )
        ) else (
          r = false
        )
      ) else (
        r = false
      )
    ) else (
      r = false
    )
  )
end Go.Proofs.YtjclppnbbpnfnaaDoor
