/-
  ELEMENTS of slices, printed by this session's own program (auto.py).
-/
import Derived.Test.YtjblfkmmbpcpaaaDoorEb
namespace Go.Proofs.YtjblfkmmbpcpaaaDoor
set_option linter.unusedSimpArgs false
set_option linter.unusedVariables false
set_option linter.unusedSectionVars false
open Go Go.LW

def D23 : EL where
  α := (Nat → BitVec 8)
  β := Unit
  sz := 32
  E := fun _ x => [(32, fun q => VU .u8 (x q))]
  val := fun _ x => AG [(32, fun q => VU .u8 (x q))]
  ck := fun v => ∃ c : Byte, v = VU .u8 c
  side := fun _ _ _ => True
  hlen := fun _ x => (catL_length _).trans rfl
  hval := fun _ _ => rfl
  one := fun _ x => Ones.mem ⟨fun _ => rfl, trivial⟩
  ckE := fun _ x v hv => by
    rw [catL_one] at hv
    obtain ⟨q, _, rfl⟩ := List.mem_map.1 hv
    exact ⟨_, rfl⟩
  mono := fun _ _ _ _ h => h
theorem D23_flat : D23.flat := fun _ _ _ _ h => h
end Go.Proofs.YtjblfkmmbpcpaaaDoor
