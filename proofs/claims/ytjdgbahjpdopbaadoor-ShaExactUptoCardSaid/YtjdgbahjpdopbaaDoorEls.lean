/-
 ELEMENTS of slices, printed by this session's own program (auto.py).
-/
import Derived.Test.YtjdgbahjpdopbaaDoorEb
namespace Go.Proofs.YtjdgbahjpdopbaaDoor
set_option linter.unusedSimpArgs false
set_option linter.unusedVariables false
set_option linter.unusedSectionVars false
open Go Go.LW
def D52 : EL where
 α := (Int × Int × Int × (List Byte) × (List Byte) × (Nat → BitVec 32) × (Nat → BitVec 8))
 β := ((Option Addr × Nat) × (Option Addr × Nat))
 sz := 77
 E := fun b x => [(1, fun _ => .int .i64 x.1), (1, fun _ => .int .i64 x.2.1), (1, fun _ => .int .i64 x.2.2.1), (1, fun _ => .slice b.1.1 x.2.2.2.1.length b.1.2), (1, fun _ => .slice b.2.1 x.2.2.2.2.1.length b.2.2), (8, fun q => VU .u32 (x.2.2.2.2.2.1 q)), (64, fun q => VU .u8 (x.2.2.2.2.2.2 q))]
 val := fun b x => AG [(1, fun _ => .int .i64 x.1), (1, fun _ => .int .i64 x.2.1), (1, fun _ => .int .i64 x.2.2.1), (1, fun _ => .slice b.1.1 x.2.2.2.1.length b.1.2), (1, fun _ => .slice b.2.1 x.2.2.2.2.1.length b.2.2), (8, fun q => VU .u32 (x.2.2.2.2.2.1 q)), (64, fun q => VU .u8 (x.2.2.2.2.2.2 q))]
 ck := fun _ => True
 side := fun L b x => (∃ ix, Bx L ix b.1.1 x.2.2.2.1.length b.1.2 x.2.2.2.1) ∧ (∃ ix, Bx L ix b.2.1 x.2.2.2.2.1.length b.2.2 x.2.2.2.2.1)
 hlen := fun _ x => (catL_length _).trans rfl
 hval := fun _ _ => rfl
 one := fun _ x => Ones.mem ⟨fun _ => rfl, fun _ => rfl, fun _ => rfl, fun _ => rfl, fun _ => rfl, fun _ => rfl, fun _ => rfl, trivial⟩
 ckE := fun _ _ _ _ => trivial
 mono := fun C L b x h => by
   obtain ⟨⟨_, h3⟩, ⟨_, h4⟩⟩ := h
   exact ⟨⟨_, h3.app C⟩, ⟨_, h4.app C⟩⟩
end Go.Proofs.YtjdgbahjpdopbaaDoor
