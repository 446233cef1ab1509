/-
  RELATIONS of the package's functions, printed by this session's own program (auto.py).
-/
import Derived.Test.YtjclppnbbpnfnaaDoorEb
import Derived.Test.YtjclppnbbpnfnaaDoorFldT
import Derived.Test.YtjclppnbbpnfnaaDoorShaM
namespace Go.Proofs.YtjclppnbbpnfnaaDoor
set_option linter.unusedSimpArgs false
set_option linter.unusedVariables false
set_option linter.unusedSectionVars false
open Go Go.LW

def letheref17_Bind_l0 (a1 : Nat → BitVec 8) (b2 : Nat → BitVec 8) (s : (Nat × (Nat → BitVec 8))) (o30 : (Nat × (Nat → BitVec 8)) ⊕ (Nat → BitVec 8)) : Prop :=
  match s with
  | (i_27, m28) =>
    if i_27 < 32 then (
      o30 = .inl ((i_27 + 1), (upd (upd m28 i_27 (a1 i_27)) (32 + i_27) (b2 i_27)))
    ) else (
      o30 = .inr m28
    )
def letheref17_Bind (a1 : Nat → BitVec 8) (b2 : Nat → BitVec 8) (r : (Nat → BitVec 8)) : Prop :=
  ∃ m29 : Nat → BitVec 8, Iter (letheref17_Bind_l0 a1 b2) (0, (fun _ => 0#8)) m29 ∧
  r = m29
end Go.Proofs.YtjclppnbbpnfnaaDoor
