/-
  ENGINE, PART 3 (own work): memory as a list of ranges (St), loads, stores, new blocks, calls, results.
-/
import Derived.Test.YtjdgbahjpdopbaaDoorLw2
import Derived.Deep.MidRow
namespace Go.LW
set_option linter.unusedSimpArgs false
set_option linter.unusedVariables false
set_option linter.unusedSectionVars false
open Go Go.RowKit

/-- n cells at offset 'off' of block p hold f 0, f 1, ..; may they be written? -/
structure Rg where
  p : Option Nat
  off : Nat
  n : Nat
  f : Nat → Value
  rw : Bool

def Rg.at (r : Rg) (w : World) : Prop := ∀ j, j < r.n → ∃ b, r.p = some b ∧ w.cell? ⟨b, r.off + j, none⟩ = some (r.f j)
def Rg.free (B : Nat) (r : Rg) (w : World) : Prop := r.rw = true → ∀ j, j < r.n → ∃ b, r.p = some b ∧ B ≤ b ∧ w.frozen? ⟨b, r.off + j, none⟩ = false
def Rg.apart (r s : Rg) : Prop := r.rw = true ∨ s.rw = true → r.p ≠ s.p ∨ r.off + r.n ≤ s.off ∨ s.off + s.n ≤ r.off ∨ r.n = 0 ∨ s.n = 0

theorem Rg.apart.symm {r s : Rg} (h : r.apart s) : s.apart r := fun hw => by
  rcases h hw.symm with h | h | h | h | h
  · exact .inl (Ne.symm h)
  · exact .inr (.inr (.inl h))
  · exact .inr (.inl h)
  · exact .inr (.inr (.inr (.inr h)))
  · exact .inr (.inr (.inr (.inl h)))

structure St (B : Nat) (w0 : World) (L : List Rg) (w : World) : Prop where
  below : Below B w0 w
  base : B ≤ w.heap.size
  at_ : ∀ r ∈ L, r.at w
  free : ∀ r ∈ L, r.free B w
  apart : L.Pairwise Rg.apart

theorem Rg.at_block {r : Rg} {w w' : World} (h : r.at w) (hb : ∀ b, r.p = some b → r.n ≠ 0 → w'.heap[b]? = w.heap[b]?) : r.at w' := fun j hj => by
  obtain ⟨b, hp, hc⟩ := h j hj
  exact ⟨b, hp, by rw [World.cell?_of_block (w := w) (hb b hp (by omega))]; exact hc⟩
theorem Rg.free_block {B : Nat} {r : Rg} {w w' : World} (h : r.free B w) (hb : ∀ b, r.p = some b → r.n ≠ 0 → w'.heap[b]? = w.heap[b]?) : r.free B w' := fun hw j hj => by
  obtain ⟨b, hp, hB, hc⟩ := h hw j hj
  exact ⟨b, hp, hB, by rw [World.frozen?_of_block (w := w) (hb b hp (by omega))]; exact hc⟩
theorem Rg.at_lt {r : Rg} {w : World} (h : r.at w) {b : Nat} (hp : r.p = some b) (hn : r.n ≠ 0) : b < w.heap.size := by
  obtain ⟨b', hp', hc⟩ := h 0 (by omega)
  obtain rfl : b = b' := by rw [hp] at hp'; exact Option.some.inj hp'
  exact block_lt_of_cell hc

section st
variable {B : Nat} {w0 w : World} {L : List Rg}

theorem St.drew (h : St B w0 L w) : St B w0 L w.drew := ⟨h.below.drew, h.base, h.at_, h.free, h.apart⟩

/-- Behind something that turned nothing below the heap's end. -/
theorem St.later (h : St B w0 L w) {w' : World} (hb : Below w.heap.size w w') : St B w0 L w' := by
  refine ⟨h.below.trans (hb.mono h.base), Nat.le_trans h.base hb.size, fun r hr => ?_, fun r hr => ?_, h.apart⟩
  · exact Rg.at_block (h.at_ r hr) fun b hp hn => hb.block b (Rg.at_lt (h.at_ r hr) hp hn)
  · exact Rg.free_block (h.free r hr) fun b hp hn => hb.block b (Rg.at_lt (h.at_ r hr) hp hn)

/-- Some of what is known. -/
theorem St.sub (h : St B w0 L w) {L' : List Rg} (hs : L'.Sublist L) : St B w0 L' w :=
  ⟨h.below, h.base, fun r hr => h.at_ r (hs.subset hr), fun r hr => h.free r (hs.subset hr), h.apart.sublist hs⟩

theorem St.cons (h : St B w0 L w) {r : Rg} (ha : r.at w) (hf : r.free B w) (hap : ∀ s ∈ L, r.apart s) : St B w0 (r :: L) w :=
  ⟨h.below, h.base, fun s hs => by rcases List.mem_cons.1 hs with rfl | hs; exact ha; exact h.at_ s hs,
   fun s hs => by rcases List.mem_cons.1 hs with rfl | hs; exact hf; exact h.free s hs, List.pairwise_cons.2 ⟨hap, h.apart⟩⟩

/-- A range that may only be read. -/
theorem St.ro (h : St B w0 L w) {p : Option Nat} {off n : Nat} {f : Nat → Value} (ha : (Rg.mk p off n f false).at w) (hap : ∀ s ∈ L, s.rw = true → (Rg.mk p off n f false).apart s) : St B w0 (⟨p, off, n, f, false⟩ :: L) w :=
  h.cons ha (fun hw => by cases hw) fun s hs hw => by
    rcases hw with hw | hw
    · cases hw
    · exact hap s hs hw (.inr hw)

theorem St.mem (h : St B w0 L w) {i : Nat} {r : Rg} (hL : L[i]? = some r) : r.at w := h.at_ r (List.mem_of_getElem? hL)

theorem St.init (B : Nat) (w : World) (h : B ≤ w.heap.size) : St B w [] w := ⟨Below.refl _ _, h, fun r hr => (by cases hr), fun r hr => (by cases hr), List.Pairwise.nil⟩

/-! new blocks -/
def catL (ps : List (Nat × (Nat → Value))) : List Value := ps.flatMap fun q => (List.range q.1).map q.2
def AG (ps : List (Nat × (Nat → Value))) : Value := .agg (catL ps).toArray
def rngs (b : Nat) : Nat → List (Nat × (Nat → Value)) → List Rg
  | _, [] => []
  | o, q :: ps => ⟨some b, o, q.1, q.2, true⟩ :: rngs b (o + q.1) ps

theorem catL_cons (q : Nat × (Nat → Value)) (ps : List (Nat × (Nat → Value))) : catL (q :: ps) = (List.range q.1).map q.2 ++ catL ps := rfl

theorem rngs_at (b : Nat) (w : World) : ∀ (ps : List (Nat × (Nat → Value))) (o : Nat), (∀ j v, (catL ps)[j]? = some v → w.cell? ⟨b, o + j, none⟩ = some v) → ∀ r ∈ rngs b o ps, r.at w
  | [], _, _, r, hr => by cases hr
  | q :: ps, o, h, r, hr => by
    rcases List.mem_cons.1 hr with rfl | hr
    · intro j hj
      refine ⟨b, rfl, h j (q.2 j) ?_⟩
      have hj' : j < q.1 := hj
      rw [catL_cons, List.getElem?_append_left (by simpa using hj')]
      simp [hj']
    · refine rngs_at b w ps (o + q.1) (fun j v hv => ?_) r hr
      rw [Nat.add_assoc]
      refine h (q.1 + j) v ?_
      rw [catL_cons, List.getElem?_append_right (by simp)]
      simpa using hv

theorem rngs_p (b : Nat) : ∀ (ps : List (Nat × (Nat → Value))) (o : Nat), ∀ r ∈ rngs b o ps, r.p = some b ∧ o ≤ r.off
  | [], _, r, hr => by cases hr
  | q :: ps, o, r, hr => by
    rcases List.mem_cons.1 hr with rfl | hr
    · exact ⟨rfl, Nat.le_refl _⟩
    · have := rngs_p b ps (o + q.1) r hr
      exact ⟨this.1, by omega⟩

theorem rngs_apart (b : Nat) : ∀ (ps : List (Nat × (Nat → Value))) (o : Nat), (rngs b o ps).Pairwise Rg.apart
  | [], _ => .nil
  | q :: ps, o => by
    refine List.pairwise_cons.2 ⟨fun s hs _ => ?_, rngs_apart b ps _⟩
    have := (rngs_p b ps (o + q.1) s hs).2
    exact .inr (.inl this)

theorem St.alloc (h : St B w0 L w) (ps : List (Nat × (Nat → Value))) (T : TypeId) : St B w0 (rngs w.heap.size 0 ps ++ L) (w.alloc (.cells (catL ps).toArray T)) := by
  have hb : Below w.heap.size w (w.alloc (.cells (catL ps).toArray T)) := (Below.refl _ _).alloc (Nat.le_refl _) _
  have h' := h.later hb
  have hnew : (w.alloc (.cells (catL ps).toArray T)).heap[w.heap.size]? = some (.cells (catL ps).toArray T) := heap_alloc_new _ _
  have hcell : ∀ j v, (catL ps)[j]? = some v → (w.alloc (.cells (catL ps).toArray T)).cell? ⟨w.heap.size, 0 + j, none⟩ = some v := fun j v hv => by
    simp only [World.cell?, hnew]
    simpa using hv
  refine ⟨h'.below, h'.base, fun r hr => ?_, fun r hr => ?_, ?_⟩
  · rcases List.mem_append.1 hr with hr | hr
    · exact rngs_at _ _ ps 0 hcell r hr
    · exact h'.at_ r hr
  · rcases List.mem_append.1 hr with hr | hr
    · intro _ j hj
      refine ⟨w.heap.size, (rngs_p _ ps 0 r hr).1, h.base, ?_⟩
      unfold World.frozen?
      rw [hnew]
      simp
    · exact h'.free r hr
  · refine List.pairwise_append.2 ⟨rngs_apart _ ps 0, h.apart, fun r hr s hs _ => ?_⟩
    by_cases hn : s.n = 0
    · exact .inr (.inr (.inr (.inr hn)))
    · refine .inl ?_
      rw [(rngs_p _ ps 0 r hr).1]
      intro he
      have := Rg.at_lt (h.at_ s hs) he.symm hn
      omega

/-! stores -/
theorem setCell_cell {w : World} {b o : Nat} {v u : Value} (h : w.cell? ⟨b, o, none⟩ = some u) (b' o' : Nat) : (w.setCell ⟨b, o, none⟩ v).cell? ⟨b', o', none⟩ = if b' = b ∧ o' = o then some v else w.cell? ⟨b', o', none⟩ := by
  by_cases hb : b' = b ∧ o' = o
  · obtain ⟨rfl, rfl⟩ := hb
    rw [if_pos ⟨rfl, rfl⟩]
    exact World.cell?_setCell_same w _ v h
  · rw [if_neg hb]
    exact World.cell?_setCell_other w _ _ v (fun e => hb (by injection e with e1 e2; exact ⟨e1.symm, e2.symm⟩))
theorem setCell_frozen (w : World) (a : Addr) (v : Value) (q : Addr) : (w.setCell a v).frozen? q = w.frozen? q := by
  simp only [World.setCell, World.frozen?, Array.getElem?_modify]
  by_cases h : a.block = q.block
  · rw [if_pos h]
    cases hq : w.heap[q.block]? with
    | none => rfl
    | some o => cases o <;> simp
  · rw [if_neg h]

theorem St.set (h : St B w0 L w) {i b off m j : Nat} {f : Nat → Value} {v : Value} (hL : L[i]? = some ⟨some b, off, m, f, true⟩) (hj : j < m) :
    St B w0 (L.set i ⟨some b, off, m, upd f j v, true⟩) (w.setCell ⟨b, off + j, none⟩ v) := by
  have hmem := List.mem_of_getElem? hL
  obtain ⟨b', hp, hc⟩ := h.at_ _ hmem j hj
  obtain rfl : b = b' := Option.some.inj hp
  obtain ⟨b', hp, hB, hfz⟩ := h.free _ hmem rfl j hj
  obtain rfl : b = b' := Option.some.inj hp
  have hc : w.cell? ⟨b, off + j, none⟩ = some (f j) := hc
  have hil : i < L.length := (List.getElem?_eq_some_iff.1 hL).1
  have hLi : L[i] = ⟨some b, off, m, f, true⟩ := (List.getElem?_eq_some_iff.1 hL).2
  refine ⟨h.below.setCell hB v, by simpa [World.setCell] using h.base, fun r hr => ?_, fun r hr => ?_, ?_⟩
  · obtain ⟨k, hk, hrk⟩ := List.getElem_of_mem hr
    rw [List.getElem_set] at hrk
    by_cases hik : i = k
    · rw [if_pos hik] at hrk
      subst hrk
      intro q hq
      refine ⟨b, rfl, ?_⟩
      rw [setCell_cell hc]
      by_cases hqj : q = j
      · subst hqj; simp [upd_same]
      · rw [if_neg (by rintro ⟨_, h2⟩; exact hqj (by simp only at h2; omega))]
        obtain ⟨b', hp, hcq⟩ := h.at_ _ hmem q hq
        obtain rfl : b = b' := Option.some.inj hp
        simp only [upd_ne _ _ _ _ hqj]
        exact hcq
    · rw [if_neg hik] at hrk
      have hk' : k < L.length := by simpa using hk
      have hap : (Rg.mk (some b) off m f true).apart r := by
        rw [← hLi, ← hrk]
        rcases Nat.lt_or_ge i k with hlt | hge
        · exact List.pairwise_iff_getElem.1 h.apart i k hil hk' hlt
        · exact (List.pairwise_iff_getElem.1 h.apart k i hk' hil (by omega)).symm
      intro q hq
      obtain ⟨b', hpr, hcq⟩ := h.at_ r (hrk ▸ List.getElem_mem hk') q hq
      refine ⟨b', hpr, ?_⟩
      rw [setCell_cell hc, if_neg ?_]
      · exact hcq
      · rintro ⟨rfl, h2⟩
        rcases hap (.inl rfl) with h3 | h3 | h3 | h3 | h3
        · exact h3 hpr.symm
        · simp only at h3; omega
        · simp only at h3; omega
        · simp only at h3; omega
        · omega
  · have hfr : ∀ q, (w.setCell ⟨b, off + j, none⟩ v).frozen? q = w.frozen? q := setCell_frozen w _ v
    intro hw q hq
    rcases List.mem_or_eq_of_mem_set hr with hr | rfl
    · obtain ⟨b', hp, hB', hz⟩ := h.free r hr hw q hq
      exact ⟨b', hp, hB', by rw [hfr]; exact hz⟩
    · obtain ⟨b', hp, hB', hz⟩ := h.free _ hmem rfl q hq
      exact ⟨b', hp, hB', by rw [hfr]; exact hz⟩
  · rw [List.pairwise_iff_getElem]
    intro x y hx hy hxy
    have hx' : x < L.length := by simpa using hx
    have hy' : y < L.length := by simpa using hy
    have h0 := List.pairwise_iff_getElem.1 h.apart x y hx' hy' hxy
    rw [List.getElem_set, List.getElem_set]
    by_cases hix : i = x
    · subst hix
      rw [if_pos rfl, if_neg (by omega)]
      rw [hLi] at h0
      exact h0
    · rw [if_neg hix]
      by_cases hiy : i = y
      · subst hiy
        rw [if_pos rfl]
        rw [hLi] at h0
        exact h0
      · rw [if_neg hiy]; exact h0
end st
end Go.LW
