/-
 ELEMENTS of slices, printed by this session's own program (auto.py).
-/
import Derived.Test.YthjkmhdgenmnoaaEc
namespace Go.Proofs.Ythjkmhdgenmnoaa
set_option linter.unusedSimpArgs false
set_option linter.unusedVariables false
set_option linter.unusedSectionVars false
open Go Go.LW
def D28 : EL where
 α := (List Byte)
 β := Option Addr × Nat × Nat
 sz := 1
 E := fun b _ => [(1, fun _ => .slice b.1 b.2.1 b.2.2)]
 val := fun b _ => .slice b.1 b.2.1 b.2.2
 ck := fun _ => True
 side := fun L b x => ∃ ix, Bx L ix b.1 b.2.1 b.2.2 x
 hlen := fun _ x => (catL_length _).trans rfl
 hval := fun _ _ => rfl
 one := fun _ x => Ones.mem ⟨fun _ => rfl, trivial⟩
 ckE := fun _ _ _ _ => trivial
 mono := fun C L b x h => by
   obtain ⟨_, h⟩ := h
   exact ⟨_, h.app C⟩
theorem D28_lifts : D28.lifts := by
 intro L L' b x hs h
 obtain ⟨_, h⟩ := h
 exact Bx.lift h hs
def D56 : EL where
 α := (Int × Int × (BitVec 8) × (BitVec 8) × (BitVec 64) × (Nat → BitVec 8) × (List Byte))
 β := (Option Addr × Nat)
 sz := 22
 E := fun b x => [(1, fun _ => .int .i64 x.1), (1, fun _ => .int .i64 x.2.1), (1, fun _ => VU .u8 x.2.2.1), (1, fun _ => VU .u8 x.2.2.2.1), (1, fun _ => VU .u64 x.2.2.2.2.1), (16, fun q => VU .u8 (x.2.2.2.2.2.1 q)), (1, fun _ => .slice b.1 x.2.2.2.2.2.2.length b.2)]
 val := fun b x => AG [(1, fun _ => .int .i64 x.1), (1, fun _ => .int .i64 x.2.1), (1, fun _ => VU .u8 x.2.2.1), (1, fun _ => VU .u8 x.2.2.2.1), (1, fun _ => VU .u64 x.2.2.2.2.1), (16, fun q => VU .u8 (x.2.2.2.2.2.1 q)), (1, fun _ => .slice b.1 x.2.2.2.2.2.2.length b.2)]
 ck := fun _ => True
 side := fun L b x => (∃ ix, Bx L ix b.1 x.2.2.2.2.2.2.length b.2 x.2.2.2.2.2.2)
 hlen := fun _ x => (catL_length _).trans rfl
 hval := fun _ _ => rfl
 one := fun _ x => Ones.mem ⟨fun _ => rfl, fun _ => rfl, fun _ => rfl, fun _ => rfl, fun _ => rfl, fun _ => rfl, fun _ => rfl, trivial⟩
 ckE := fun _ _ _ _ => trivial
 mono := fun C L b x h => by
   obtain ⟨_, h6⟩ := h
   exact ⟨_, h6.app C⟩
theorem D56_lifts : D56.lifts := by
 intro L L' b x hs h
 obtain ⟨_, h6⟩ := h
 exact Bx.lift h6 hs
def D76 : EL where
 α := (Nat → BitVec 8)
 β := Unit
 sz := 4
 E := fun _ x => [(4, fun q => VU .u8 (x q))]
 val := fun _ x => AG [(4, fun q => VU .u8 (x q))]
 ck := fun v => ∃ c : Byte, v = VU .u8 c
 side := fun _ _ _ => True
 hlen := fun _ x => (catL_length _).trans rfl
 hval := fun _ _ => rfl
 one := fun _ x => Ones.mem ⟨fun _ => rfl, trivial⟩
 ckE := fun _ x v hv => by
   rw [catL_one] at hv
   obtain ⟨q, _, rfl⟩ := List.mem_map.1 hv
   exact ⟨_, rfl⟩
 mono := fun _ _ _ _ h => h
theorem D76_flat : D76.flat := fun _ _ _ _ h => h
end Go.Proofs.Ythjkmhdgenmnoaa
