/-
  RELATIONS of the package's functions, printed by this session's own program (auto.py).
-/
import Derived.Test.YtjdgbahjpdopbaaDoorLx5
import Derived.Test.YtjdgbahjpdopbaaDoorShaM
import Derived.Test.YtjdgbahjpdopbaaDoorRLaw02
import Derived.Test.YtjdgbahjpdopbaaDoorRSha
namespace Go.Proofs.YtjdgbahjpdopbaaDoor
set_option linter.unusedSimpArgs false
set_option linter.unusedVariables false
set_option linter.unusedSectionVars false
open Go Go.LW

def lethelaw02_ShaKnown_l0  (s : ((List Byte) × Nat)) (o54 : ((List Byte) × Nat) ⊕ (List Byte)) : Prop :=
  match s with
  | (a51, i_52) =>
    if i_52 < 1000 then (
      (i_52 < (List.replicate 1000 0#8).length) ∧
      o54 = .inl ((a51.set i_52 (97#8)), (i_52 + 1))
    ) else (
      o54 = .inr a51
    )
def lethelaw02_ShaKnown_l1  (s : ((List Byte) × Nat × (Nat → BitVec 32) × (Nat → BitVec 8) × Int)) (o100 : ((List Byte) × Nat × (Nat → BitVec 32) × (Nat → BitVec 8) × Int) ⊕ ((Nat → BitVec 32) × (Nat → BitVec 8) × Int)) : Prop :=
  match s with
  | (a92, i_93, m94, m95, m96) =>
    if i_93 < 1000 then (
      ∃ x_108 : Nat → BitVec 32, ∃ x_109 : Nat → BitVec 8, ∃ x_110 : Int, sha_Hash_Write m94 m95 m96 a92 (x_108, x_109, x_110) ∧
      o100 = .inl (a92, (i_93 + 1), x_108, x_109, x_110)
    ) else (
      o100 = .inr (m94, m95, m96)
    )
def lethelaw02_ShaKnown  (r : Bool) : Prop :=
  ∃ x_5 : Bool, lethelaw02_moves x_5 ∧
  if x_5 = true then (
    ∃ x_11 : Nat → BitVec 8, sha_Sum ([] : List (List Byte)) x_11 ∧
    if (eqB 32 x_11 (lit [227#8, 176#8, 196#8, 66#8, 152#8, 252#8, 28#8, 20#8, 154#8, 251#8, 244#8, 200#8, 153#8, 111#8, 185#8, 36#8, 39#8, 174#8, 65#8, 228#8, 100#8, 155#8, 147#8, 76#8, 164#8, 149#8, 153#8, 27#8, 120#8, 82#8, 184#8, 85#8])) = true then (
      ∃ x_20 : Nat → BitVec 8, sha_Sum ([(dl 3 (lit ([97#8, 98#8, 99#8] : List Byte)))] : List (List Byte)) x_20 ∧
      if (eqB 32 x_20 (lit [186#8, 120#8, 22#8, 191#8, 143#8, 1#8, 207#8, 234#8, 65#8, 65#8, 64#8, 222#8, 93#8, 174#8, 34#8, 35#8, 176#8, 3#8, 97#8, 163#8, 150#8, 23#8, 122#8, 156#8, 180#8, 16#8, 255#8, 97#8, 242#8, 0#8, 21#8, 173#8])) = true then (
        ∃ x_25 : Nat → BitVec 32, ∃ x_26 : Nat → BitVec 8, ∃ x_27 : Nat, sha_New (x_25, x_26, x_27) ∧
        ∃ a53 : List Byte, Iter (lethelaw02_ShaKnown_l0) ((List.replicate 1000 0#8), 0) a53 ∧
        ∃ m97 : Nat → BitVec 32, ∃ m98 : Nat → BitVec 8, ∃ m99 : Int, Iter (lethelaw02_ShaKnown_l1) (a53, 0, x_25, x_26, ((x_27 : Nat) : Int)) (m97, m98, m99) ∧
        ∃ x_117 : Int, sha_Hash_Len m97 m98 m99 x_117 ∧
        if x_117 = 1000000 then (
          ∃ x_121 : Nat → BitVec 8, sha_Hash_Sum m97 m98 m99 x_121 ∧
          r = (eqB 32 x_121 (lit [205#8, 199#8, 110#8, 92#8, 153#8, 20#8, 251#8, 146#8, 129#8, 161#8, 199#8, 226#8, 132#8, 215#8, 62#8, 103#8, 241#8, 128#8, 154#8, 72#8, 164#8, 151#8, 32#8, 14#8, 4#8, 109#8, 57#8, 204#8, 199#8, 17#8, 44#8, 208#8]))
        ) else (
          r = false
        )
      ) else (
        r = false
      )
    ) else (
      r = false
    )
  ) else (
    r = false
  )
end Go.Proofs.YtjdgbahjpdopbaaDoor
