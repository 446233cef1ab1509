/-
  ENGINE, PART 12 (own work): bytes as lists.
-/
import Derived.Test.YtjdgbahjpdopbaaDoorLw11
namespace Go.LW
set_option linter.unusedSimpArgs false
set_option linter.unusedVariables false
set_option linter.unusedSectionVars false
open Go Go.RowKit

abbrev Byte := BitVec 8
theorem lit_range {s n : Nat} (M : Nat → BitVec s) : ∀ q, q < n → lit ((List.range n).map M) q = M q := fun q hq => by
  unfold lit; simp [List.getD_eq_getElem?_getD, hq]
theorem lit_app {s : Nat} (X Y : List (BitVec s)) (q : Nat) : lit (X ++ Y) q = if q < X.length then lit X q else lit Y (q - X.length) := by
  unfold lit
  rw [List.getD_eq_getElem?_getD, List.getElem?_append]
  split <;> rw [List.getD_eq_getElem?_getD]
theorem lit_of {s : Nat} (X : List (BitVec s)) : (List.range X.length).map (lit X) = X := by
  apply List.ext_getElem?
  intro q
  by_cases h : q < X.length
  · simp [lit, h]
  · simp [h]
/-- X from lo to hi -/
def seg {α : Type} (X : List α) (lo hi : Nat) : List α := (X.take hi).drop lo
theorem seg_length {α : Type} {X : List α} {lo hi : Nat} (h : hi ≤ X.length) : (seg X lo hi).length = hi - lo := by
  unfold seg; simp; omega
theorem lit_seg {s : Nat} {X : List (BitVec s)} {lo hi q : Nat} (h : hi ≤ X.length) (hq : q < hi - lo) : lit (seg X lo hi) q = lit X (lo + q) := by
  unfold lit seg
  simp [List.getD_eq_getElem?_getD, List.getElem?_drop, List.getElem?_take, show lo + q < hi by omega]
theorem seg_app {α : Type} {X : List α} {a b c : Nat} (h : a ≤ b ∧ b ≤ c ∧ c ≤ X.length) : seg X a b ++ seg X b c = seg X a c := by
  apply List.ext_getElem?
  intro q
  have h1 : (seg X a b).length = b - a := seg_length (by omega)
  rw [List.getElem?_append, h1]
  unfold seg
  simp only [List.getElem?_drop, List.getElem?_take]
  split
  · rw [if_pos (by omega), if_pos (by omega)]
  · rw [show b + (q - (b - a)) = a + q by omega]
theorem seg_all {α : Type} (X : List α) : seg X 0 X.length = X := by unfold seg; simp
theorem seg_zero {α : Type} (X : List α) (n : Nat) : seg X 0 n = X.take n := by unfold seg; simp
theorem seg_self {α : Type} (X : List α) (n : Nat) : seg X n n = [] := by unfold seg; simp

theorem Bs.list {L : List Rg} {a : Option Addr} {len cc : Nat} {M : Nat → Byte} (h : Bs L a len cc M) : ∃ X : List Byte, X.length = len ∧ Bs L a len cc (lit X) :=
  ⟨(List.range len).map M, by simp, h.congr fun q hq => lit_range M q hq⟩
theorem Bs.seg {L : List Rg} {a : Option Addr} {len cc : Nat} {X : List Byte} (h : Bs L a len cc (lit X)) (hl : X.length = len) {lo hi : Nat} (hb : lo ≤ hi ∧ hi ≤ len) : Bs L (if cc = lo then a else a.map (·.add (lo * 1))) (hi - lo) (cc - lo) (lit (seg X lo hi)) :=
  (h.slice hb).congr fun q hq => lit_seg (by omega) hq
/-- from the head on: the address is as it was -/
theorem Bs.take {L : List Rg} {a : Option Addr} {len cc : Nat} {X : List Byte} (h : Bs L a len cc (lit X)) (hl : X.length = len) {n : Nat} (hn : n ≤ len) : Bs L a n cc (lit (X.take n)) := by
  obtain ⟨iS, offs, ms, js, os, ps, G, rw, h1, h2, h3, h4, h5, h6⟩ := h
  refine ⟨iS, offs, ms, js, os, ps, G, rw, h1, fun h0 => h2 (by omega), h3, by omega, by omega, fun q hq => ?_⟩
  rw [← h6 q (by omega), ← seg_zero, lit_seg (by omega) (by omega), Nat.zero_add]
theorem Bs.nilL {L : List Rg} {cc : Nat} {a : Option Addr} {len : Nat} {M : Nat → Byte} (h : Bs L a len cc M) (N : Nat → Byte) : Bs L none 0 0 N := by
  obtain ⟨iS, offs, ms, js, os, ps, G, rw, h1, h2⟩ := h
  exact ⟨iS, offs, ms, 0, offs, ps, G, rw, h1, fun h => absurd h (by omega), rfl, by omega, Nat.le_refl _, fun q hq => absurd hq (by omega)⟩
theorem Bs.ownL {L : List Rg} (k : Nat) {a : Option Addr} {pb : Option Nat} {len cap : Nat} {F : Nat → Byte} {X : List Byte} (hL : L[k]? = some ⟨pb, 0, cap, fun q => VU .u8 (F q), true⟩) (ho : OwnSl a pb cap) (hl : len ≤ cap) (hF : ∀ q, q < len → lit X q = F q) : Bs L a len cap (lit X) :=
  (Bs.own k hL ho hl).congr hF

section step
variable {P : Program} {n : Nat} {K : Pend → Env → World → Prop} {l : List It} {O O' : Pend} {e : Env} {w : World} {i ty : Nat} {d : Tmp} {pos : String} {aft : Array Edge} {gd g : Option (Nat × Bool)}
variable {B : Nat} {w0 : World} {L L' : List Rg}

/-- append of bytes, as lists -/
theorem Plan.appendL (hst : St B w0 L w) {t t' sz : TypeId} {x y : Operand} {len cap m cy : Nat} {a ay : Option Addr} {pb : Option Nat} {F : Nat → Byte} {X Y : List Byte} (k : Nat) (he : elD P t = some (1, 1, some (VU .u8 0#8))) (ht' : slB P t' sz = true) (hg : wantedE n e g = true)
    (hx : ev n e x = .slice a len cap) (hy : ev n e y = .slice ay m cy) (hL : L[k]? = some ⟨pb, 0, cap, fun q => VU .u8 (F q), true⟩) (ho : OwnSl a pb cap) (hlc : len ≤ cap) (hX : X.length = len) (hF : ∀ q, q < len → lit X q = F q) (hY : Bs L ay m cy (lit Y)) (hYl : Y.length = m) (hb : len + m ≤ 140737488355328)
    (hO : ∀ r, EffO aft O (L.set k r) O')
    (h : ∀ a' pb' cap' (F' : Nat → Byte) w', OwnSl a' pb' cap' → (X ++ Y).length ≤ cap' → (∀ q, q < (X ++ Y).length → lit (X ++ Y) q = F' q) → St B w0 (L.set k ⟨pb', 0, cap', fun q => VU .u8 (F' q), true⟩) w' → Plan P n K l O' (updO e (some d) (.slice a' (X ++ Y).length cap')) w') :
    Plan P n K (⟨i, false, ⟨some d, .call ⟨.builtin .append, #[x, y], #[t, t']⟩, ty, pos, aft, gd⟩, g⟩ :: l) O e w := by
  subst hX hYl
  refine Plan.appendU hst k he hg hx hy hL ho (Src.ofBs hst ht' hY) hlc (by omega) (by omega) hO fun a' pb' cap' F' w' ho' hc hF' hst' => ?_
  have hlen : X.length + Y.length = (X ++ Y).length := List.length_append.symm
  rw [hlen] at hF' hc
  rw [hlen]
  refine h a' pb' cap' F' w' ho' hc (fun q hq => ?_) hst'
  rw [hF' q hq, lit_app]
  split
  · rw [spl_out _ _ _ _ _ (by omega)]; exact hF q (by omega)
  · rw [spl_in _ _ _ _ _ (by omega)]
end step
end Go.LW
