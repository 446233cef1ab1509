/-
 ELEMENTS of slices, printed by this session's own program (auto.py).
-/
import Derived.Test.YtjclppnbbpnfnaaDoorEb
namespace Go.Proofs.YtjclppnbbpnfnaaDoor
set_option linter.unusedSimpArgs false
set_option linter.unusedVariables false
set_option linter.unusedSectionVars false
open Go Go.LW
def D47 : EL where
 α := (Int × (Nat → BitVec 8) × (Nat → BitVec 8) × (Nat → BitVec 8) × (Nat → BitVec 8) × (Nat → BitVec 8) × (BitVec 32) × (Nat → BitVec 8) × (Nat → BitVec 8) × (Nat → BitVec 8) × (BitVec 32))
 β := Unit
 sz := 259
 E := fun _ x => [(1, fun _ => .int .i64 x.1), (32, fun q => VU .u8 (x.2.1 q)), (32, fun q => VU .u8 (x.2.2.1 q)), (32, fun q => VU .u8 (x.2.2.2.1 q)), (32, fun q => VU .u8 (x.2.2.2.2.1 q)), (32, fun q => VU .u8 (x.2.2.2.2.2.1 q)), (1, fun _ => VU .u32 x.2.2.2.2.2.2.1), (32, fun q => VU .u8 (x.2.2.2.2.2.2.2.1 q)), (32, fun q => VU .u8 (x.2.2.2.2.2.2.2.2.1 q)), (32, fun q => VU .u8 (x.2.2.2.2.2.2.2.2.2.1 q)), (1, fun _ => VU .u32 x.2.2.2.2.2.2.2.2.2.2)]
 val := fun _ x => AG [(1, fun _ => .int .i64 x.1), (32, fun q => VU .u8 (x.2.1 q)), (32, fun q => VU .u8 (x.2.2.1 q)), (32, fun q => VU .u8 (x.2.2.2.1 q)), (32, fun q => VU .u8 (x.2.2.2.2.1 q)), (32, fun q => VU .u8 (x.2.2.2.2.2.1 q)), (1, fun _ => VU .u32 x.2.2.2.2.2.2.1), (32, fun q => VU .u8 (x.2.2.2.2.2.2.2.1 q)), (32, fun q => VU .u8 (x.2.2.2.2.2.2.2.2.1 q)), (32, fun q => VU .u8 (x.2.2.2.2.2.2.2.2.2.1 q)), (1, fun _ => VU .u32 x.2.2.2.2.2.2.2.2.2.2)]
 ck := fun _ => True
 side := fun _ _ _ => True
 hlen := fun _ x => (catL_length _).trans rfl
 hval := fun _ _ => rfl
 one := fun _ x => Ones.mem ⟨fun _ => rfl, fun _ => rfl, fun _ => rfl, fun _ => rfl, fun _ => rfl, fun _ => rfl, fun _ => rfl, fun _ => rfl, fun _ => rfl, fun _ => rfl, fun _ => rfl, trivial⟩
 ckE := fun _ _ _ _ => trivial
 mono := fun _ _ _ _ h => h
def D66 : EL where
 α := ((Nat → BitVec 8) × (Nat → BitVec 8))
 β := Unit
 sz := 64
 E := fun _ x => [(32, fun q => VU .u8 (x.1 q)), (32, fun q => VU .u8 (x.2 q))]
 val := fun _ x => AG [(32, fun q => VU .u8 (x.1 q)), (32, fun q => VU .u8 (x.2 q))]
 ck := fun _ => True
 side := fun _ _ _ => True
 hlen := fun _ x => (catL_length _).trans rfl
 hval := fun _ _ => rfl
 one := fun _ x => Ones.mem ⟨fun _ => rfl, fun _ => rfl, trivial⟩
 ckE := fun _ _ _ _ => trivial
 mono := fun _ _ _ _ h => h
theorem D66_flat : D66.flat := fun _ _ _ _ h => h
end Go.Proofs.YtjclppnbbpnfnaaDoor
