/-
  RELATIONS of the package's functions, printed by this session's own program (auto.py).
-/
import Derived.Test.YtjdgbahjpdopbaaDoorEc
import Derived.Test.YtjdgbahjpdopbaaDoorShaM
import Derived.Test.YtjdgbahjpdopbaaDoorRLaw03
namespace Go.Proofs.YtjdgbahjpdopbaaDoor
set_option linter.unusedSimpArgs false
set_option linter.unusedVariables false
set_option linter.unusedSectionVars false
open Go Go.LW

def lethelaw03_KdfExact_l0 (script1 : List (Int × (List Byte) × (List Byte) × (List Byte) × Int)) (r : Bool) (s : (Nat × (List (List Byte)) × (List (List Byte)) × (List (List (Nat → BitVec 8))) × (List (List (Nat → BitVec 8))))) (o150 : (Nat × (List (List Byte)) × (List (List Byte)) × (List (List (Nat → BitVec 8))) × (List (List (Nat → BitVec 8)))) ⊕ (Option ((List (List Byte)) × (List (List Byte)) × (List (List (Nat → BitVec 8))) × (List (List (Nat → BitVec 8)))))) : Prop :=
  match s with
  | (i_137, m138, m140, m142, m144) =>
    if i_137 < script1.length then (
      if i_137 < 30 then (
        (i_137 < script1.length) ∧
        ∃ x_172 : Bool, ∃ x_173 : List (List Byte), ∃ x_174 : List (List Byte), ∃ x_175 : List (List (Nat → BitVec 8)), ∃ x_176 : List (List (Nat → BitVec 8)), lethelaw03_Book_plays m138 m140 m142 m144 ((script1.getD i_137 ((0 : Int), ([] : List Byte), ([] : List Byte), ([] : List Byte), (0 : Int))).1) ((script1.getD i_137 ((0 : Int), ([] : List Byte), ([] : List Byte), ([] : List Byte), (0 : Int))).2.1) ((script1.getD i_137 ((0 : Int), ([] : List Byte), ([] : List Byte), ([] : List Byte), (0 : Int))).2.2.1) ((script1.getD i_137 ((0 : Int), ([] : List Byte), ([] : List Byte), ([] : List Byte), (0 : Int))).2.2.2.1) ((script1.getD i_137 ((0 : Int), ([] : List Byte), ([] : List Byte), ([] : List Byte), (0 : Int))).2.2.2.2) (x_172, x_173, x_174, x_175, x_176) ∧
        if x_172 = true then (
          ∃ x_212 : Bool, lethelaw03_Book_Holds x_173 x_174 x_175 x_176 x_212 ∧
          if x_212 = true then (
            o150 = .inl ((i_137 + 1), x_173, x_174, x_175, x_176)
          ) else (
            o150 = .inr none ∧ r = false
          )
        ) else (
          o150 = .inr none ∧ r = false
        )
      ) else (
        o150 = .inr (some (m138, m140, m142, m144))
      )
    ) else (
      o150 = .inr (some (m138, m140, m142, m144))
    )
def lethelaw03_KdfExact (script1 : List (Int × (List Byte) × (List Byte) × (List Byte) × Int)) (r : Bool) : Prop :=
  ∃ x150 : Option ((List (List Byte)) × (List (List Byte)) × (List (List (Nat → BitVec 8))) × (List (List (Nat → BitVec 8)))), Iter (lethelaw03_KdfExact_l0 script1 r) (0, ([] : List (List Byte)), ([] : List (List Byte)), ([] : List (List (Nat → BitVec 8))), ([] : List (List (Nat → BitVec 8)))) x150 ∧ (∀ (m146 : List (List Byte)) (m147 : List (List Byte)) (m148 : List (List (Nat → BitVec 8))) (m149 : List (List (Nat → BitVec 8))), x150 = some (m146, m147, m148, m149) →
  ∃ x_228 : Bool, ∃ x_229 : List (List Byte), ∃ x_230 : List (List Byte), ∃ x_231 : List (List (Nat → BitVec 8)), ∃ x_232 : List (List (Nat → BitVec 8)), lethelaw03_Book_plays m146 m147 m148 m149 1 ([] : List Byte) ([] : List Byte) ([] : List Byte) 0 (x_228, x_229, x_230, x_231, x_232) ∧
  if x_228 = true then (
    ∃ x_261 : Bool, ∃ x_262 : List (List Byte), ∃ x_263 : List (List Byte), ∃ x_264 : List (List (Nat → BitVec 8)), ∃ x_265 : List (List (Nat → BitVec 8)), lethelaw03_Book_plays x_229 x_230 x_231 x_232 3 ([] : List Byte) ([] : List Byte) ([] : List Byte) 33 (x_261, x_262, x_263, x_264, x_265) ∧
    if x_261 = true then (
      ∃ x_295 : Bool, lethelaw03_Book_Holds x_262 x_263 x_264 x_265 x_295 ∧
      r = x_295
    ) else (
      r = false
    )
  ) else (
    r = false
  )
  )
end Go.Proofs.YtjdgbahjpdopbaaDoor
