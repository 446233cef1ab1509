/-
 ELEMENTS of slices, printed by this session's own program (auto.py).
-/
import Derived.Test.YtbkgblhmlenocaaEd
namespace Go.Proofs.Ytbkgblhmlenocaa
set_option linter.unusedSimpArgs false
set_option linter.unusedVariables false
set_option linter.unusedSectionVars false
open Go Go.LW
def D23 : EL where
 α := (Option Addr × Nat × Nat)
 β := Unit
 sz := 1
 E := fun _ x => [(1, fun _ => .slice x.1 x.2.1 x.2.2)]
 val := fun _ x => .slice x.1 x.2.1 x.2.2
 ck := fun _ => True
 side := fun _ _ _ => True
 hlen := fun _ x => (catL_length _).trans rfl
 hval := fun _ _ => rfl
 one := fun _ x => Ones.mem ⟨fun _ => rfl, trivial⟩
 ckE := fun _ _ _ _ => trivial
 mono := fun _ _ _ _ h => h
theorem D23_flat : D23.flat := fun _ _ _ _ h => h
def D60 : EL where
 α := (Int × Int × Int × (Option Addr × Nat × Nat))
 β := Unit
 sz := 4
 E := fun _ x => [(1, fun _ => .int .i64 x.1), (1, fun _ => .int .i64 x.2.1), (1, fun _ => .int .i64 x.2.2.1), (1, fun _ => .slice x.2.2.2.1 x.2.2.2.2.1 x.2.2.2.2.2)]
 val := fun _ x => AG [(1, fun _ => .int .i64 x.1), (1, fun _ => .int .i64 x.2.1), (1, fun _ => .int .i64 x.2.2.1), (1, fun _ => .slice x.2.2.2.1 x.2.2.2.2.1 x.2.2.2.2.2)]
 ck := fun _ => True
 side := fun _ _ _ => True
 hlen := fun _ x => (catL_length _).trans rfl
 hval := fun _ _ => rfl
 one := fun _ x => Ones.mem ⟨fun _ => rfl, fun _ => rfl, fun _ => rfl, fun _ => rfl, trivial⟩
 ckE := fun _ _ _ _ => trivial
 mono := fun _ _ _ _ h => h
theorem D60_flat : D60.flat := fun _ _ _ _ h => h
end Go.Proofs.Ytbkgblhmlenocaa
