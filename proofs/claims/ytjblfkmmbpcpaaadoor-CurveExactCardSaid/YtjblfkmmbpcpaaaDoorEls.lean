/-
  ELEMENTS of slices, printed by this session's own program (auto.py).
-/
import Derived.Test.YtjblfkmmbpcpaaaDoorEb
namespace Go.Proofs.YtjblfkmmbpcpaaaDoor
set_option linter.unusedSimpArgs false
set_option linter.unusedVariables false
set_option linter.unusedSectionVars false
open Go Go.LW

def D69 : EL where
  α := (Int × (Nat → BitVec 8) × (Nat → BitVec 8) × (List Byte))
  β := (Option Addr × Nat)
  sz := 66
  E := fun b x => [(1, fun _ => .int .i64 x.1), (32, fun q => VU .u8 (x.2.1 q)), (32, fun q => VU .u8 (x.2.2.1 q)), (1, fun _ => .slice b.1 x.2.2.2.length b.2)]
  val := fun b x => AG [(1, fun _ => .int .i64 x.1), (32, fun q => VU .u8 (x.2.1 q)), (32, fun q => VU .u8 (x.2.2.1 q)), (1, fun _ => .slice b.1 x.2.2.2.length b.2)]
  ck := fun _ => True
  side := fun L b x => (∃ ix, Bx L ix b.1 x.2.2.2.length b.2 x.2.2.2)
  hlen := fun _ x => (catL_length _).trans rfl
  hval := fun _ _ => rfl
  one := fun _ x => Ones.mem ⟨fun _ => rfl, fun _ => rfl, fun _ => rfl, fun _ => rfl, trivial⟩
  ckE := fun _ _ _ _ => trivial
  mono := fun C L b x h => by
    obtain ⟨_, h3⟩ := h
    exact ⟨_, h3.app C⟩
end Go.Proofs.YtjblfkmmbpcpaaaDoor
