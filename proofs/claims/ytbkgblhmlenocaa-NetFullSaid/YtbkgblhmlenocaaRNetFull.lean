/-
  RELATIONS of the package's functions, printed by this session's own program (auto.py).
-/
import Derived.Test.YtbkgblhmlenocaaEd
import Derived.Test.YtbkgblhmlenocaaRNet
namespace Go.Proofs.Ytbkgblhmlenocaa
set_option linter.unusedSimpArgs false
set_option linter.unusedVariables false
set_option linter.unusedSectionVars false
open Go Go.LW

def lethelaw23_NetFull_l0 (most1 : Int) (x_9 : Int) (x_10 : Int) (r : Bool) (s : ((List (Int × (Int × Int × Int × (List Byte)))) × Nat × Int)) (o178 : ((List (Int × (Int × Int × Int × (List Byte)))) × Nat × Int) ⊕ (Option ((List (Int × (Int × Int × Int × (List Byte)))) × Int))) : Prop :=
  match s with
  | (mp173, i_174, m175) =>
    if ((i_174 : Nat) : Int) < ((max most1 (w64 (-(w64 (most1 + 1))))).tmod 40) then (
      ∃ mp221 : List (Int × (Int × Int × Int × (List Byte))), ∃ m222 : Int, ∃ e_223 : Nat, ∃ m224 : Int, (
        if 0 < i_174 then (
          if (i_174 % 2) = 1 then (
            ∃ x_230 : Int, ∃ x_231 : Nat, ∃ x_232 : Int, ∃ x_233 : List (Int × (Int × Int × Int × (List Byte))), net_Net_Copy x_9 x_10 mp173 m175 (((i_174 - 1) : Nat) : Int) (x_230, x_231, x_232, x_233) ∧
            mp221 = x_233 ∧ m222 = x_230 ∧ e_223 = x_231 ∧ m224 = x_232
          ) else (
            ∃ x_242 : Int, ∃ x_243 : Nat, ∃ x_244 : Int, ∃ x_245 : List (Int × (Int × Int × Int × (List Byte))), net_Net_Send x_9 x_10 mp173 m175 1 2 ([(BitVec.ofNat 8 i_174)] : List Byte) (x_242, x_243, x_244, x_245) ∧
            mp221 = x_245 ∧ m222 = x_242 ∧ e_223 = x_243 ∧ m224 = x_244
          )
        ) else (
          ∃ x_255 : Int, ∃ x_256 : Nat, ∃ x_257 : Int, ∃ x_258 : List (Int × (Int × Int × Int × (List Byte))), net_Net_Send x_9 x_10 mp173 m175 1 2 ([(BitVec.ofNat 8 i_174)] : List Byte) (x_255, x_256, x_257, x_258) ∧
          mp221 = x_258 ∧ m222 = x_255 ∧ e_223 = x_256 ∧ m224 = x_257
        )
      ) ∧
      if m222 ≠ ((i_174 : Nat) : Int) then (
        o178 = .inr none ∧ r = false
      ) else (
        if e_223 ≠ 0 then (
          o178 = .inr none ∧ r = false
        ) else (
          o178 = .inl (mp221, (i_174 + 1), m224)
        )
      )
    ) else (
      o178 = .inr (some (mp173, m175))
    )
def lethelaw23_NetFull (most1 : Int) (k2 : Int) (r : Bool) : Prop :=
  ((∃ x_8 : Nat, net_New 2 ((max most1 (w64 (-(w64 (most1 + 1))))).tmod 40) (.inl x_8) ∧
    if x_8 ≠ 0 then (
      r = false
    ) else (
      r = false
    )
  ) ∨ (∃ x_9 : Int, ∃ x_10 : Int, ∃ x_11 : List (Int × (Int × Int × Int × (List Byte))), ∃ x_12 : Nat, ∃ x_13 : Nat, net_New 2 ((max most1 (w64 (-(w64 (most1 + 1))))).tmod 40) (.inr (x_9, x_10, x_11, x_12, x_13)) ∧
    if x_13 ≠ 0 then (
      r = false
    ) else (
      ∃ x178 : Option ((List (Int × (Int × Int × Int × (List Byte)))) × Int), Iter (lethelaw23_NetFull_l0 most1 x_9 x_10 r) (x_11, 0, ((x_12 : Nat) : Int)) x178 ∧ (∀ (mp176 : List (Int × (Int × Int × Int × (List Byte)))) (m177 : Int), x178 = some (mp176, m177) →
      ∃ x_282 : Int, ∃ x_283 : Nat, ∃ x_284 : Int, ∃ x_285 : List (Int × (Int × Int × Int × (List Byte))), net_Net_Send x_9 x_10 mp176 m177 1 2 ([] : List Byte) (x_282, x_283, x_284, x_285) ∧
      if x_283 ≠ 231 then (
        r = false
      ) else (
        ∃ x_321 : Int, net_Net_Next x_9 x_10 x_285 x_284 x_321 ∧
        if x_321 ≠ ((max most1 (w64 (-(w64 (most1 + 1))))).tmod 40) then (
          r = false
        ) else (
          ∃ x_331 : List (Int × Int × Int × (List Byte)), net_Net_Flights x_9 x_10 x_285 x_284 x_331 ∧
          if ((x_331.length : Nat) : Int) ≠ ((max most1 (w64 (-(w64 (most1 + 1))))).tmod 40) then (
            r = false
          ) else (
            if ((max most1 (w64 (-(w64 (most1 + 1))))).tmod 40) = 0 then (
              r = true
            ) else (
              (((max most1 (w64 (-(w64 (most1 + 1))))).tmod 40) ≠ 0) ∧
              ∃ x_356 : Int, ∃ x_357 : Nat, ∃ x_358 : Int, ∃ x_359 : List (Int × (Int × Int × Int × (List Byte))), net_Net_Copy x_9 x_10 x_285 x_284 ((max k2 (w64 (-(w64 (k2 + 1))))).tmod ((max most1 (w64 (-(w64 (most1 + 1))))).tmod 40)) (x_356, x_357, x_358, x_359) ∧
              ∃ x_367 : Int, ∃ x_368 : Nat, ∃ x_369 : Int, ∃ x_370 : List (Int × (Int × Int × Int × (List Byte))), net_Net_Copy x_9 x_10 x_359 x_358 ((max most1 (w64 (-(w64 (most1 + 1))))).tmod 40) (x_367, x_368, x_369, x_370) ∧
              ∃ x_378 : Nat, ∃ x_379 : List (Int × (Int × Int × Int × (List Byte))), net_Net_Drop x_9 x_10 x_370 x_369 ((max k2 (w64 (-(w64 (k2 + 1))))).tmod ((max most1 (w64 (-(w64 (most1 + 1))))).tmod 40)) (x_378, x_379) ∧
              ∃ x_387 : Int, ∃ x_388 : Nat, ∃ x_389 : Int, ∃ x_390 : List (Int × (Int × Int × Int × (List Byte))), net_Net_Send x_9 x_10 x_379 x_369 2 1 ([] : List Byte) (x_387, x_388, x_389, x_390) ∧
              ∃ x_398 : Int, ∃ x_399 : Nat, ∃ x_400 : Int, ∃ x_401 : List (Int × (Int × Int × Int × (List Byte))), net_Net_Send x_9 x_10 x_390 x_389 2 1 ([] : List Byte) (x_398, x_399, x_400, x_401) ∧
              if x_357 = 231 then (
                if x_368 = 230 then (
                  if x_378 = 0 then (
                    if x_388 = 0 then (
                      if x_387 = ((max most1 (w64 (-(w64 (most1 + 1))))).tmod 40) then (
                        r = (decide (x_399 = 231))
                      ) else (
                        r = false
                      )
                    ) else (
                      r = false
                    )
                  ) else (
                    r = false
                  )
                ) else (
                  r = false
                )
              ) else (
                r = false
              )
            )
          )
        )
      )
      )
    )
  ))
end Go.Proofs.Ytbkgblhmlenocaa
