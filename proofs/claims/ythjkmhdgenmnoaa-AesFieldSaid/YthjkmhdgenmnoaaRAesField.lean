/-
  RELATIONS of the package's functions, printed by this session's own program (auto.py).
-/
import Derived.Test.YthjkmhdgenmnoaaLx3
import Derived.Test.YthjkmhdgenmnoaaRAes
namespace Go.Proofs.Ythjkmhdgenmnoaa
set_option linter.unusedSimpArgs false
set_option linter.unusedVariables false
set_option linter.unusedSectionVars false
open Go Go.LW

def lethelaw04_AesField_l0 (a1 : BitVec 8) (s : ((BitVec 8) × Nat × Nat)) (o139 : ((BitVec 8) × Nat × Nat) ⊕ ((BitVec 8) × Nat)) : Prop :=
  match s with
  | (inverse134, many135, i_136) =>
    if i_136 < 256 then (
      ∃ x_147 : BitVec 8, aes_Mul a1 (BitVec.ofNat 8 i_136) x_147 ∧
      if x_147 = 1#8 then (
        ((many135 + 1) < 9223372036854775808) ∧
        o139 = .inl ((BitVec.ofNat 8 i_136), (many135 + 1), (i_136 + 1))
      ) else (
        o139 = .inl (inverse134, many135, (i_136 + 1))
      )
    ) else (
      o139 = .inr (inverse134, many135)
    )
def lethelaw04_AesField_l2 (inverse137 : BitVec 8) (bit246 : Nat) (s : (Nat × Nat)) (o276 : (Nat × Nat) ⊕ Nat) : Prop :=
  match s with
  | (v273, turn274) =>
    if turn274 < 5 then (
      if turn274 = 0 then (
        (v273 < 9223372036854775808 ∧ (inverse137 >>> bit246).toNat < 9223372036854775808) ∧
        o276 = .inl ((v273 ^^^ ((inverse137 >>> bit246).toNat)), (turn274 + 1))
      ) else (
        (v273 < 9223372036854775808 ∧ (inverse137 >>> (((bit246 + turn274) + 3) % 8)).toNat < 9223372036854775808) ∧
        o276 = .inl ((v273 ^^^ ((inverse137 >>> (((bit246 + turn274) + 3) % 8)).toNat)), (turn274 + 1))
      )
    ) else (
      o276 = .inr v273
    )
def lethelaw04_AesField_l1 (inverse137 : BitVec 8) (s : ((BitVec 8) × Nat)) (o248 : ((BitVec 8) × Nat) ⊕ (BitVec 8)) : Prop :=
  match s with
  | (want245, bit246) =>
    if bit246 < 8 then (
      ∃ v275 : Nat, Iter (lethelaw04_AesField_l2 inverse137 bit246) ((99 / 2 ^ bit246), 0) v275 ∧
      (v275 < 9223372036854775808 ∧ 1 < 9223372036854775808) ∧
      o248 = .inl ((want245 ||| ((BitVec.ofNat 8 (v275 &&& 1)) <<< bit246)), (bit246 + 1))
    ) else (
      o248 = .inr want245
    )
def lethelaw04_AesField (a1 : BitVec 8) (b2 : BitVec 8) (c3 : BitVec 8) (r : Bool) : Prop :=
  ∃ x_42 : BitVec 8, aes_Mul a1 b2 x_42 ∧
  ∃ x_45 : BitVec 8, aes_Mul b2 a1 x_45 ∧
  if x_42 ≠ x_45 then (
    r = false
  ) else (
    ∃ x_50 : BitVec 8, aes_Mul b2 c3 x_50 ∧
    ∃ x_53 : BitVec 8, aes_Mul a1 x_50 x_53 ∧
    ∃ x_56 : BitVec 8, aes_Mul a1 b2 x_56 ∧
    ∃ x_59 : BitVec 8, aes_Mul x_56 c3 x_59 ∧
    if x_53 ≠ x_59 then (
      r = false
    ) else (
      ∃ x_64 : BitVec 8, aes_Mul a1 (b2 ^^^ c3) x_64 ∧
      ∃ x_67 : BitVec 8, aes_Mul a1 b2 x_67 ∧
      ∃ x_70 : BitVec 8, aes_Mul a1 c3 x_70 ∧
      if x_64 ≠ (x_67 ^^^ x_70) then (
        r = false
      ) else (
        ∃ x_93 : BitVec 8, aes_Mul a1 (1#8) x_93 ∧
        if x_93 ≠ a1 then (
          r = false
        ) else (
          ∃ x_98 : BitVec 8, aes_Mul (128#8) (2#8) x_98 ∧
          if x_98 ≠ 27#8 then (
            r = false
          ) else (
            ∃ x_103 : BitVec 8, aes_Mul (2#8) (3#8) x_103 ∧
            if x_103 ≠ 6#8 then (
              r = false
            ) else (
              ∃ inverse137 : BitVec 8, ∃ many138 : Nat, Iter (lethelaw04_AesField_l0 a1) (0#8, 0, 0) (inverse137, many138) ∧
              if ((decide (many138 = 1)) != (decide (a1 ≠ 0#8))) = true then (
                r = false
              ) else (
                if 1 < many138 then (
                  r = false
                ) else (
                  ∃ want247 : BitVec 8, Iter (lethelaw04_AesField_l1 inverse137) (0#8, 0) want247 ∧
                  ∃ x_291 : BitVec 8, aes_Box a1 x_291 ∧
                  r = (decide (x_291 = want247))
                )
              )
            )
          )
        )
      )
    )
  )
end Go.Proofs.Ythjkmhdgenmnoaa
