/-
  ENGINE, PART 11 (own work): what came in, as ranges: slices of numbers, tables.
-/
import Derived.Test.YtjdgbahjpdopbaaDoorLw10
import Derived.Lib.LaidTab
namespace Go.LW
set_option linter.unusedSimpArgs false
set_option linter.unusedVariables false
set_option linter.unusedSectionVars false
open Go Go.RowKit

/-- A slice of integers that came in: nil, or it leads to a row of cap cells, the first len its elements. -/
def IsRow (k : IntKind) (w : World) (a : Option Addr) (len cap : Nat) (zs : List Int) : Prop :=
  (a = none ∧ len = 0 ∧ cap = 0 ∧ zs = []) ∨
  ∃ x, a = some x ∧ len ≤ cap ∧ cap ≤ maxLen ∧ zs.length = cap ∧ (∀ i, i < zs.length → w.cell? (x.add i) = some (.int k (zs.getD i 0))) ∧ ∀ n ∈ zs, (Lit.int k n).wf = true

theorem IsRow.le {k : IntKind} {w : World} {a : Option Addr} {len cap : Nat} {zs : List Int} (h : IsRow k w a len cap zs) : len ≤ cap ∧ cap ≤ maxLen := by
  rcases h with ⟨_, rfl, rfl, _⟩ | ⟨x, _, h1, h2, _⟩
  · exact ⟨Nat.le_refl _, by decide⟩
  · exact ⟨h1, h2⟩
theorem maxLen_val : maxLen = 9223372036854775807 ∨ maxLen < 9223372036854775807 := by decide

theorem cell_spot {w : World} {x : Addr} {v : Value} (h : w.cell? x = some v) : x.spot = none := by
  unfold World.cell? at h
  cases hs : x.spot with
  | none => rfl
  | some s =>
    rw [hs] at h
    split at h
    · simp at h
    · cases h

/-- the range of a row that came in -/
theorem IsRow.rg {k : IntKind} {w : World} {a : Option Addr} {len cap : Nat} {zs : List Int} (h : IsRow k w a len cap zs) : ∃ (p : Option Nat) (off : Nat), (Rg.mk p off cap (fun q => .int k (zs.getD q 0)) false).at w ∧ SlV a p off len := by
  rcases h with ⟨rfl, rfl, rfl, rfl⟩ | ⟨x, rfl, h1, h2, h3, h4, h5⟩
  · exact ⟨none, 0, fun j hj => absurd hj (by simp), fun h => absurd h (by omega)⟩
  · by_cases h0 : cap = 0
    · exact ⟨none, 0, fun j hj => absurd hj (by simp; omega), fun h => absurd h (by omega)⟩
    · have hx := cell_spot (by have := h4 0 (by omega); rwa [Addr.add_zero'] at this)
      obtain ⟨b, o, s⟩ := x
      simp only at hx
      subst hx
      refine ⟨some b, o, fun j hj => ⟨b, rfl, ?_⟩, fun _ => ⟨b, rfl, rfl⟩⟩
      have := h4 j (by rw [h3]; exact hj)
      rwa [Addr.add_mid] at this

def roL (L : List Rg) : Prop := ∀ s ∈ L, s.rw = false
theorem roL.nil : roL [] := fun s hs => by cases hs
theorem roL.cons {r : Rg} {L : List Rg} (h : roL L) (hr : r.rw = false) : roL (r :: L) := fun s hs => by
  rcases List.mem_cons.1 hs with rfl | hs
  · exact hr
  · exact h s hs
section st
variable {B : Nat} {w0 w : World} {L : List Rg}
theorem St.roC (h : St B w0 L w) (hr : roL L) {p : Option Nat} {off n : Nat} {f : Nat → Value} (ha : (Rg.mk p off n f false).at w) : St B w0 (⟨p, off, n, f, false⟩ :: L) w ∧ roL (⟨p, off, n, f, false⟩ :: L) :=
  ⟨h.ro ha (fun s hs hw => by rw [hr s hs] at hw; cases hw), hr.cons rfl⟩
theorem Rg.congr_at {p : Option Nat} {off n : Nat} {f g : Nat → Value} {rw : Bool} {w : World} (h : (Rg.mk p off n f rw).at w) (hfg : ∀ j, j < n → f j = g j) : (Rg.mk p off n g rw).at w := fun j hj => by
  obtain ⟨b, h1, h2⟩ := h j hj
  exact ⟨b, h1, by rw [h2]; exact congrArg some (hfg j hj)⟩
theorem wf_u8 {n : Int} (h : (Lit.int .u8 n).wf = true) : 0 ≤ n ∧ n < 256 := by
  simp [Lit.wf, IntKind.min, IntKind.max, IntKind.signed, IntKind.bits] at h
  omega
/-- bytes that came in -/
theorem IsRow.bytes {a : Option Addr} {len cap : Nat} {zs : List Int} (hz : IsRow .u8 w a len cap zs) (h : St B w0 L w) (hr : roL L) : ∃ r : Rg, St B w0 (r :: L) w ∧ roL (r :: L) ∧ Bs (r :: L) a len cap (fun q => BitVec.ofInt 8 (zs.getD q 0)) := by
  obtain ⟨p, off, h1, h2⟩ := hz.rg
  have h3 : (Rg.mk p off cap (fun q => VU .u8 (BitVec.ofInt 8 (zs.getD q 0))) false).at w := Rg.congr_at h1 fun j hj => by
    have hw : 0 ≤ zs.getD j 0 ∧ zs.getD j 0 < 256 := by
      rcases hz with ⟨_, _, rfl, _⟩ | ⟨x, _, _, _, hl, _, hwf⟩
      · exact absurd hj (by omega)
      · have : zs.getD j 0 ∈ zs := by
          rw [List.getD_eq_getElem?_getD, List.getElem?_eq_getElem (by omega)]
          exact List.getElem_mem _
        exact wf_u8 (hwf _ this)
    show Value.int .u8 _ = Value.int .u8 _
    congr 1
    rw [BitVec.toNat_ofInt]
    omega
  obtain ⟨h4, h5⟩ := h.roC hr h3
  exact ⟨_, h4, h5, 0, off, cap, 0, off, p, _, false, rfl, h2, rfl, by have := hz.le; omega, hz.le.1, fun q _ => by rw [Nat.zero_add]⟩
/-- The slice (a, len) reads as the ints z. -/
def Is (L : List Rg) (a : Option Addr) (len : Nat) (z : List Int) : Prop :=
  ∃ (i : Nat) (p : Option Nat) (o m : Nat), L[i]? = some ⟨p, o, m, fun q => .int .i64 (z.getD q 0), false⟩ ∧ SlV a p o len ∧ len ≤ m ∧ len < 9223372036854775808 ∧ ∀ q, q < len → -9223372036854775808 ≤ z.getD q 0 ∧ z.getD q 0 ≤ 9223372036854775807
theorem Is.app {a : Option Addr} {len : Nat} {z : List Int} (h : Is L a len z) (C : List Rg) : Is (C ++ L) a len z := by
  obtain ⟨i, p, o, m, h1, h2⟩ := h
  exact ⟨C.length + i, p, o, m, by rw [List.getElem?_append_right (Nat.le_add_right _ _), Nat.add_sub_cancel_left]; exact h1, h2⟩
theorem wf_i64 {n : Int} (h : (Lit.int .i64 n).wf = true) : -9223372036854775808 ≤ n ∧ n ≤ 9223372036854775807 := by
  simp [Lit.wf, IntKind.min, IntKind.max, IntKind.signed, IntKind.bits] at h
  omega
theorem IsRow.ints {a : Option Addr} {len cap : Nat} {zs : List Int} (hz : IsRow .i64 w a len cap zs) (h : St B w0 L w) (hr : roL L) : ∃ r : Rg, St B w0 (r :: L) w ∧ roL (r :: L) ∧ Is (r :: L) a len zs := by
  obtain ⟨p, off, h1, h2⟩ := hz.rg
  obtain ⟨h4, h5⟩ := h.roC hr h1
  have hm : maxLen < 9223372036854775808 := by decide
  have hle := hz.le
  refine ⟨_, h4, h5, 0, p, off, cap, rfl, h2, hle.1, by omega, fun q hq => ?_⟩
  rcases hz with ⟨_, rfl, _, _⟩ | ⟨x, _, _, _, hl, _, hwf⟩
  · exact absurd hq (by omega)
  · have : zs.getD q 0 ∈ zs := by
      rw [List.getD_eq_getElem?_getD, List.getElem?_eq_getElem (by omega)]
      exact List.getElem_mem _
    exact wf_i64 (hwf _ this)
/-- a table -/
theorem St.tab {P : Program} (h : St B w0 L w) (hr : roL L) {name : String} {k : IntKind} {zs : List Int} {g s : Nat} {F : Nat → BitVec s} (ht : Lib.TabIs P w name k zs) (hg : P.globalNamed name = some g) (n : Nat) (hn : zs.length = n) (hF : (List.range n).all (fun i => zs.getD i 0 == ((F i).toNat : Int)) = true) :
    St B w0 (⟨some g, 0, n, fun q => VU k (F q), false⟩ :: L) w ∧ roL (⟨some g, 0, n, fun q => VU k (F q), false⟩ :: L) :=
  h.roC hr fun j hj => ⟨g, rfl, by
    have hj : j < n := hj
    have h1 := ht.cell hg j (by omega)
    rw [Nat.zero_add, h1]
    have := List.all_eq_true.1 hF j (List.mem_range.2 hj)
    rw [beq_iff_eq] at this
    rw [this]⟩
end st
end Go.LW
