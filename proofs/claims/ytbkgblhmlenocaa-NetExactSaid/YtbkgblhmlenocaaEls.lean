/-
  ELEMENTS of slices, printed by this session's own program (auto.py).
-/
import Derived.Test.YtbkgblhmlenocaaEd
namespace Go.Proofs.Ytbkgblhmlenocaa
set_option linter.unusedSimpArgs false
set_option linter.unusedVariables false
set_option linter.unusedSectionVars false
open Go Go.LW

def D60 : EL where
  α := (Int × Int × Int × (List Byte))
  β := (Option Addr × Nat)
  sz := 4
  E := fun b x => [(1, fun _ => .int .i64 x.1), (1, fun _ => .int .i64 x.2.1), (1, fun _ => .int .i64 x.2.2.1), (1, fun _ => .slice b.1 x.2.2.2.length b.2)]
  val := fun b x => AG [(1, fun _ => .int .i64 x.1), (1, fun _ => .int .i64 x.2.1), (1, fun _ => .int .i64 x.2.2.1), (1, fun _ => .slice b.1 x.2.2.2.length b.2)]
  ck := fun _ => True
  side := fun L b x => (∃ ix, Bx L ix b.1 x.2.2.2.length b.2 x.2.2.2)
  hlen := fun _ x => (catL_length _).trans rfl
  hval := fun _ _ => rfl
  one := fun _ x => Ones.mem ⟨fun _ => rfl, fun _ => rfl, fun _ => rfl, fun _ => rfl, trivial⟩
  ckE := fun _ _ _ _ => trivial
  mono := fun C L b x h => by
    obtain ⟨_, h3⟩ := h
    exact ⟨_, h3.app C⟩
theorem D60_lifts : D60.lifts := by
  intro L L' b x hs h
  obtain ⟨_, h3⟩ := h
  exact Bx.lift h3 hs
def D89 : EL where
  α := (Int × Int × Int × Int × (List Byte))
  β := (Option Addr × Nat)
  sz := 5
  E := fun b x => [(1, fun _ => .int .i64 x.1), (1, fun _ => .int .i64 x.2.1), (1, fun _ => .int .i64 x.2.2.1), (1, fun _ => .int .i64 x.2.2.2.1), (1, fun _ => .slice b.1 x.2.2.2.2.length b.2)]
  val := fun b x => AG [(1, fun _ => .int .i64 x.1), (1, fun _ => .int .i64 x.2.1), (1, fun _ => .int .i64 x.2.2.1), (1, fun _ => .int .i64 x.2.2.2.1), (1, fun _ => .slice b.1 x.2.2.2.2.length b.2)]
  ck := fun _ => True
  side := fun L b x => (∃ ix, Bx L ix b.1 x.2.2.2.2.length b.2 x.2.2.2.2)
  hlen := fun _ x => (catL_length _).trans rfl
  hval := fun _ _ => rfl
  one := fun _ x => Ones.mem ⟨fun _ => rfl, fun _ => rfl, fun _ => rfl, fun _ => rfl, fun _ => rfl, trivial⟩
  ckE := fun _ _ _ _ => trivial
  mono := fun C L b x h => by
    obtain ⟨_, h4⟩ := h
    exact ⟨_, h4.app C⟩
theorem D89_lifts : D89.lifts := by
  intro L L' b x hs h
  obtain ⟨_, h4⟩ := h
  exact Bx.lift h4 hs
end Go.Proofs.Ytbkgblhmlenocaa
