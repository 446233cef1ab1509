/-
  ELEMENTS of slices, printed by this session's own program (auto.py).
-/
import Derived.Test.YtbkgblhmlenocaaEd
namespace Go.Proofs.Ytbkgblhmlenocaa
set_option linter.unusedSimpArgs false
set_option linter.unusedVariables false
set_option linter.unusedSectionVars false
open Go Go.LW

def D3 : EL where
  α := Int
  β := Unit
  sz := 1
  E := fun _ x => [(1, fun _ => .int .i64 x)]
  val := fun _ x => .int .i64 x
  ck := fun _ => True
  side := fun _ _ _ => True
  hlen := fun _ x => (catL_length _).trans rfl
  hval := fun _ _ => rfl
  one := fun _ x => Ones.mem ⟨fun _ => rfl, trivial⟩
  ckE := fun _ _ _ _ => trivial
  mono := fun _ _ _ _ h => h
theorem D3_flat : D3.flat := fun _ _ _ _ h => h
theorem D3_arr {L : List Rg} (k : Nat) {b off n cc m : Nat} {f : Nat → Int} {rw : Bool} (h : L[k]? = some ⟨some b, off, m, fun q => .int .i64 (f q), rw⟩) (hn : n ≤ m) (hc : n ≤ cc) : LV D3 L k (some ⟨b, off, none⟩) n cc (dli n f) :=
  ⟨dli_length n f, hc, fun _ => ⟨off, m, 0, off, some b, fun q => .int .i64 (f q), rw, h, fun _ => ⟨b, rfl, rfl⟩, rfl, by show 0 + n * 1 ≤ m; omega, fun j x hx => ⟨(), trivial, fun k v hv => by
    obtain ⟨h1, rfl⟩ := dli_get hx
    have hk : k = 0 := by
      have := (List.getElem?_eq_some_iff.1 hv).1
      rw [catL_length] at this
      have h2 : k < 1 := this
      omega
    subst hk
    have e : (0 : Nat) + j * 1 + 0 = j := by omega
    show Value.int .i64 (f (0 + j * 1 + 0)) = v
    rw [e]
    exact Option.some.inj hv⟩⟩⟩
def D71 : EL where
  α := (Nat → BitVec 8)
  β := Unit
  sz := 32
  E := fun _ x => [(32, fun q => VU .u8 (x q))]
  val := fun _ x => AG [(32, fun q => VU .u8 (x q))]
  ck := fun v => ∃ c : Byte, v = VU .u8 c
  side := fun _ _ _ => True
  hlen := fun _ x => (catL_length _).trans rfl
  hval := fun _ _ => rfl
  one := fun _ x => Ones.mem ⟨fun _ => rfl, trivial⟩
  ckE := fun _ x v hv => by
    rw [catL_one] at hv
    obtain ⟨q, _, rfl⟩ := List.mem_map.1 hv
    exact ⟨_, rfl⟩
  mono := fun _ _ _ _ h => h
theorem D71_flat : D71.flat := fun _ _ _ _ h => h
def D81 : EL where
  α := ((BitVec 32) × (BitVec 32) × (Nat → BitVec 8))
  β := Unit
  sz := 34
  E := fun _ x => [(1, fun _ => VU .u32 x.1), (1, fun _ => VU .u32 x.2.1), (32, fun q => VU .u8 (x.2.2 q))]
  val := fun _ x => AG [(1, fun _ => VU .u32 x.1), (1, fun _ => VU .u32 x.2.1), (32, fun q => VU .u8 (x.2.2 q))]
  ck := fun _ => True
  side := fun _ _ _ => True
  hlen := fun _ x => (catL_length _).trans rfl
  hval := fun _ _ => rfl
  one := fun _ x => Ones.mem ⟨fun _ => rfl, fun _ => rfl, fun _ => rfl, trivial⟩
  ckE := fun _ _ _ _ => trivial
  mono := fun _ _ _ _ h => h
theorem D81_flat : D81.flat := fun _ _ _ _ h => h
def D113 : EL where
  α := (Int × (BitVec 32) × (BitVec 32) × (List (Nat → BitVec 8)))
  β := (Option Addr × Nat)
  sz := 4
  E := fun b x => [(1, fun _ => .int .i64 x.1), (1, fun _ => VU .u32 x.2.1), (1, fun _ => VU .u32 x.2.2.1), (1, fun _ => .slice b.1 x.2.2.2.length b.2)]
  val := fun b x => AG [(1, fun _ => .int .i64 x.1), (1, fun _ => VU .u32 x.2.1), (1, fun _ => VU .u32 x.2.2.1), (1, fun _ => .slice b.1 x.2.2.2.length b.2)]
  ck := fun _ => True
  side := fun L b x => (∃ ix, LV D71 L ix b.1 x.2.2.2.length b.2 x.2.2.2)
  hlen := fun _ x => (catL_length _).trans rfl
  hval := fun _ _ => rfl
  one := fun _ x => Ones.mem ⟨fun _ => rfl, fun _ => rfl, fun _ => rfl, fun _ => rfl, trivial⟩
  ckE := fun _ _ _ _ => trivial
  mono := fun C L b x h => by
    obtain ⟨_, h3⟩ := h
    exact ⟨_, h3.app C⟩
theorem D113_lifts : D113.lifts := by
  intro L L' b x hs h
  obtain ⟨_, h3⟩ := h
  exact LV.lift D71_flat h3 hs
end Go.Proofs.Ytbkgblhmlenocaa
