/-
  ELEMENTS of slices, printed by this session's own program (auto.py).
-/
import Derived.Test.YtjdgbahjpdopbaaDoorEc
namespace Go.Proofs.YtjdgbahjpdopbaaDoor
set_option linter.unusedSimpArgs false
set_option linter.unusedVariables false
set_option linter.unusedSectionVars false
open Go Go.LW

def D22 : EL where
  α := (List Byte)
  β := Option Addr × Nat × Nat
  sz := 1
  E := fun b _ => [(1, fun _ => .slice b.1 b.2.1 b.2.2)]
  val := fun b _ => .slice b.1 b.2.1 b.2.2
  ck := fun _ => True
  side := fun L b x => ∃ ix, Bx L ix b.1 b.2.1 b.2.2 x
  hlen := fun _ x => (catL_length _).trans rfl
  hval := fun _ _ => rfl
  one := fun _ x => Ones.mem ⟨fun _ => rfl, trivial⟩
  ckE := fun _ _ _ _ => trivial
  mono := fun C L b x h => by
    obtain ⟨_, h⟩ := h
    exact ⟨_, h.app C⟩
theorem D22_lifts : D22.lifts := by
  intro L L' b x hs h
  obtain ⟨_, h⟩ := h
  exact Bx.lift h hs
def D31 : EL where
  α := (Nat → BitVec 8)
  β := Unit
  sz := 32
  E := fun _ x => [(32, fun q => VU .u8 (x q))]
  val := fun _ x => AG [(32, fun q => VU .u8 (x q))]
  ck := fun v => ∃ c : Byte, v = VU .u8 c
  side := fun _ _ _ => True
  hlen := fun _ x => (catL_length _).trans rfl
  hval := fun _ _ => rfl
  one := fun _ x => Ones.mem ⟨fun _ => rfl, trivial⟩
  ckE := fun _ x v hv => by
    rw [catL_one] at hv
    obtain ⟨q, _, rfl⟩ := List.mem_map.1 hv
    exact ⟨_, rfl⟩
  mono := fun _ _ _ _ h => h
theorem D31_flat : D31.flat := fun _ _ _ _ h => h
def D61 : EL where
  α := (Nat → BitVec 8)
  β := Unit
  sz := 32
  E := fun _ x => [(32, fun q => VU .u8 (x q))]
  val := fun _ x => AG [(32, fun q => VU .u8 (x q))]
  ck := fun v => ∃ c : Byte, v = VU .u8 c
  side := fun _ _ _ => True
  hlen := fun _ x => (catL_length _).trans rfl
  hval := fun _ _ => rfl
  one := fun _ x => Ones.mem ⟨fun _ => rfl, trivial⟩
  ckE := fun _ x v hv => by
    rw [catL_one] at hv
    obtain ⟨q, _, rfl⟩ := List.mem_map.1 hv
    exact ⟨_, rfl⟩
  mono := fun _ _ _ _ h => h
theorem D61_flat : D61.flat := fun _ _ _ _ h => h
def D81 : EL where
  α := (Int × (List Byte) × (List Byte) × (List Byte) × Int)
  β := ((Option Addr × Nat) × (Option Addr × Nat) × (Option Addr × Nat))
  sz := 5
  E := fun b x => [(1, fun _ => .int .i64 x.1), (1, fun _ => .slice b.1.1 x.2.1.length b.1.2), (1, fun _ => .slice b.2.1.1 x.2.2.1.length b.2.1.2), (1, fun _ => .slice b.2.2.1 x.2.2.2.1.length b.2.2.2), (1, fun _ => .int .i64 x.2.2.2.2)]
  val := fun b x => AG [(1, fun _ => .int .i64 x.1), (1, fun _ => .slice b.1.1 x.2.1.length b.1.2), (1, fun _ => .slice b.2.1.1 x.2.2.1.length b.2.1.2), (1, fun _ => .slice b.2.2.1 x.2.2.2.1.length b.2.2.2), (1, fun _ => .int .i64 x.2.2.2.2)]
  ck := fun _ => True
  side := fun L b x => (∃ ix, Bx L ix b.1.1 x.2.1.length b.1.2 x.2.1) ∧ (∃ ix, Bx L ix b.2.1.1 x.2.2.1.length b.2.1.2 x.2.2.1) ∧ (∃ ix, Bx L ix b.2.2.1 x.2.2.2.1.length b.2.2.2 x.2.2.2.1)
  hlen := fun _ x => (catL_length _).trans rfl
  hval := fun _ _ => rfl
  one := fun _ x => Ones.mem ⟨fun _ => rfl, fun _ => rfl, fun _ => rfl, fun _ => rfl, fun _ => rfl, trivial⟩
  ckE := fun _ _ _ _ => trivial
  mono := fun C L b x h => by
    obtain ⟨⟨_, h1⟩, ⟨_, h2⟩, ⟨_, h3⟩⟩ := h
    exact ⟨⟨_, h1.app C⟩, ⟨_, h2.app C⟩, ⟨_, h3.app C⟩⟩
theorem D81_lifts : D81.lifts := by
  intro L L' b x hs h
  obtain ⟨⟨_, h1⟩, ⟨_, h2⟩, ⟨_, h3⟩⟩ := h
  exact ⟨Bx.lift h1 hs, Bx.lift h2 hs, Bx.lift h3 hs⟩
def D62 : EL where
  α := (List (Nat → BitVec 8))
  β := Option Addr × Nat × Nat
  sz := 1
  E := fun b _ => [(1, fun _ => .slice b.1 b.2.1 b.2.2)]
  val := fun b _ => .slice b.1 b.2.1 b.2.2
  ck := fun _ => True
  side := fun L b x => ∃ ix, LV D61 L ix b.1 b.2.1 b.2.2 x
  hlen := fun _ x => (catL_length _).trans rfl
  hval := fun _ _ => rfl
  one := fun _ x => Ones.mem ⟨fun _ => rfl, trivial⟩
  ckE := fun _ _ _ _ => trivial
  mono := fun C L b x h => by
    obtain ⟨_, h⟩ := h
    exact ⟨_, h.app C⟩
theorem D62_lifts : D62.lifts := by
  intro L L' b x hs h
  obtain ⟨_, h⟩ := h
  exact LV.lift D61_flat h hs
end Go.Proofs.YtjdgbahjpdopbaaDoor
