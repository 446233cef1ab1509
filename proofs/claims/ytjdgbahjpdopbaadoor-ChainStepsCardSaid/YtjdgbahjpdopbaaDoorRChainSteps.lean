/-
  RELATIONS of the package's functions, printed by this session's own program (auto.py).
-/
import Derived.Test.YtjdgbahjpdopbaaDoorLx9
import Derived.Test.YtjdgbahjpdopbaaDoorShaM
import Derived.Test.YtjdgbahjpdopbaaDoorRChain
import Derived.Test.YtjdgbahjpdopbaaDoorRKdf
import Derived.Test.YtjdgbahjpdopbaaDoorRLaw13
namespace Go.Proofs.YtjdgbahjpdopbaaDoor
set_option linter.unusedSimpArgs false
set_option linter.unusedVariables false
set_option linter.unusedSectionVars false
open Go Go.LW

def lethelaw13_ChainSteps (k1 : Nat → BitVec 8) (s2 : Nat → BitVec 8) (m3 : Int) (n_4 : Int) (r : Bool) : Prop :=
  ∃ x_14 : Nat → BitVec 8, ∃ x_15 : List (Nat → BitVec 8), ∃ x_16 : Nat, chain_Ahead k1 ((max m3 (w64 (-(w64 (m3 + 1))))).tmod 33) (x_14, x_15, x_16) ∧
  ∃ x_27 : Nat → BitVec 8, ∃ x_28 : List (Nat → BitVec 8), ∃ x_29 : Nat, chain_Ahead x_14 ((max n_4 (w64 (-(w64 (n_4 + 1))))).tmod 32) (x_27, x_28, x_29) ∧
  ∃ x_40 : Nat → BitVec 8, ∃ x_41 : List (Nat → BitVec 8), ∃ x_42 : Nat, chain_Ahead k1 (((max m3 (w64 (-(w64 (m3 + 1))))).tmod 33) + ((max n_4 (w64 (-(w64 (n_4 + 1))))).tmod 32)) (x_40, x_41, x_42) ∧
  ∃ t95 : Bool, (
    if x_16 ≠ 0 then (
      t95 = true
    ) else (
      if x_29 ≠ 0 then (
        t95 = true
      ) else (
        if x_42 ≠ 0 then (
          t95 = true
        ) else (
          if (eqB 32 x_27 x_40) = true then (
            if ((x_15.length : Nat) : Int) ≠ ((max m3 (w64 (-(w64 (m3 + 1))))).tmod 33) then (
              t95 = true
            ) else (
              ((x_15.length + x_28.length) * 32 ≤ 140737488355328 ∧ x_15.length + x_28.length < 9223372036854775808) ∧
              ∃ x_109 : Bool, lethelaw13_sameKeys (x_15 ++ x_28) x_41 x_109 ∧
              t95 = (!x_109)
            )
          ) else (
            t95 = true
          )
        )
      )
    )
  ) ∧
  if t95 = true then (
    r = false
  ) else (
    ∃ x_119 : Nat → BitVec 8, ∃ x_120 : Nat → BitVec 8, chain_Step k1 (x_119, x_120) ∧
    ∃ x_128 : Nat → BitVec 8, ∃ x_129 : List (Nat → BitVec 8), ∃ x_130 : Nat, chain_Ahead k1 1 (x_128, x_129, x_130) ∧
    ∃ t213 : Bool, (
      if x_130 ≠ 0 then (
        t213 = true
      ) else (
        if (eqB 32 x_128 x_119) = true then (
          if x_129.length ≠ 1 then (
            t213 = true
          ) else (
            (0 < x_129.length) ∧
            if (eqB 32 (x_129.getD 0 (fun _ => 0#8)) x_120) = true then (
              ∃ x_228 : Nat → BitVec 8, kdf_Mac (dl 32 k1) ([([1#8] : List Byte)] : List (List Byte)) x_228 ∧
              if (eqB 32 x_120 x_228) = true then (
                ∃ x_235 : Nat → BitVec 8, kdf_Mac (dl 32 k1) ([([2#8] : List Byte)] : List (List Byte)) x_235 ∧
                t213 = (!(eqB 32 x_119 x_235))
              ) else (
                t213 = true
              )
            ) else (
              t213 = true
            )
          )
        ) else (
          t213 = true
        )
      )
    ) ∧
    if t213 = true then (
      r = false
    ) else (
      ∃ x_247 : Nat → BitVec 8, ∃ x_248 : Nat → BitVec 8, chain_Root k1 s2 (x_247, x_248) ∧
      ∃ x_258 : List Byte, ∃ x_259 : Nat, kdf_Derive (dl 32 k1) (dl 32 s2) (dl 10 (lit ([108#8, 101#8, 116#8, 104#8, 101#8, 32#8, 114#8, 111#8, 111#8, 116#8] : List Byte))) 64 (x_258, x_259) ∧
      if x_259 = 0 then (
        ((dl 32 x_247).length + (dl 32 x_248).length ≤ 9223372036854775807) ∧
        r = (decide (x_258 = ((dl 32 x_247) ++ (dl 32 x_248))))
      ) else (
        r = false
      )
    )
  )
end Go.Proofs.YtjdgbahjpdopbaaDoor
