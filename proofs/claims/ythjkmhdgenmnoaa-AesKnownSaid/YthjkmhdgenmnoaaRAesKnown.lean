/-
  RELATIONS of the package's functions, printed by this session's own program (auto.py).
-/
import Derived.Test.YthjkmhdgenmnoaaLx3
import Derived.Test.YthjkmhdgenmnoaaRAes
import Derived.Test.YthjkmhdgenmnoaaRLaw04
namespace Go.Proofs.Ythjkmhdgenmnoaa
set_option linter.unusedSimpArgs false
set_option linter.unusedVariables false
set_option linter.unusedSectionVars false
open Go Go.LW

def lethelaw04_AesKnown_l0  (s : (Nat × (Nat → BitVec 8))) (o21 : (Nat × (Nat → BitVec 8)) ⊕ (Nat → BitVec 8)) : Prop :=
  match s with
  | (i_18, m19) =>
    if i_18 < 32 then (
      o21 = .inl ((i_18 + 1), (upd m19 i_18 (BitVec.ofNat 8 i_18)))
    ) else (
      o21 = .inr m19
    )
def lethelaw04_AesKnown  (r : Bool) : Prop :=
  ∃ m20 : Nat → BitVec 8, Iter (lethelaw04_AesKnown_l0) (0, (fun _ => 0#8)) m20 ∧
  ((lethelaw04_of m20 (.inl ()) ∧
    r = false
  ) ∨ (∃ x_31 : Nat → BitVec 8, ∃ x_32 : Nat → BitVec 8, ∃ x_33 : Nat → BitVec 8, ∃ x_34 : Nat → BitVec 8, lethelaw04_of m20 (.inr (x_31, x_32, x_33, x_34)) ∧
    ∃ x_51 : Nat → BitVec 8, aes_Cipher_Encrypt x_31 x_32 x_33 x_34 (lit [0#8, 17#8, 34#8, 51#8, 68#8, 85#8, 102#8, 119#8, 136#8, 153#8, 170#8, 187#8, 204#8, 221#8, 238#8, 255#8]) x_51 ∧
    if (eqB 16 x_51 (lit [142#8, 162#8, 183#8, 202#8, 81#8, 103#8, 69#8, 191#8, 234#8, 252#8, 73#8, 144#8, 75#8, 73#8, 96#8, 137#8])) = true then (
      ((lethelaw04_of (lit [96#8, 61#8, 235#8, 16#8, 21#8, 202#8, 113#8, 190#8, 43#8, 115#8, 174#8, 240#8, 133#8, 125#8, 119#8, 129#8, 31#8, 53#8, 44#8, 7#8, 59#8, 97#8, 8#8, 215#8, 45#8, 152#8, 16#8, 163#8, 9#8, 20#8, 223#8, 244#8]) (.inl ()) ∧
        r = false
      ) ∨ (∃ x_56 : Nat → BitVec 8, ∃ x_57 : Nat → BitVec 8, ∃ x_58 : Nat → BitVec 8, ∃ x_59 : Nat → BitVec 8, lethelaw04_of (lit [96#8, 61#8, 235#8, 16#8, 21#8, 202#8, 113#8, 190#8, 43#8, 115#8, 174#8, 240#8, 133#8, 125#8, 119#8, 129#8, 31#8, 53#8, 44#8, 7#8, 59#8, 97#8, 8#8, 215#8, 45#8, 152#8, 16#8, 163#8, 9#8, 20#8, 223#8, 244#8]) (.inr (x_56, x_57, x_58, x_59)) ∧
        ∃ x_77 : List Byte, aes_Cipher_Stream x_56 x_57 x_58 x_59 (lit [240#8, 241#8, 242#8, 243#8, 244#8, 245#8, 246#8, 247#8, 248#8, 249#8, 250#8, 251#8, 252#8, 253#8, 254#8, 255#8]) ([107#8, 193#8, 190#8, 226#8, 46#8, 64#8, 159#8, 150#8, 233#8, 61#8, 126#8, 17#8, 115#8, 147#8, 23#8, 42#8] : List Byte) x_77 ∧
        ∃ x_86 : Bool, lethelaw04_Eq x_77 ([96#8, 30#8, 195#8, 19#8, 119#8, 87#8, 137#8, 165#8, 183#8, 167#8, 245#8, 4#8, 187#8, 243#8, 210#8, 40#8] : List Byte) x_86 ∧
        r = x_86
      ))
    ) else (
      r = false
    )
  ))
end Go.Proofs.Ythjkmhdgenmnoaa
