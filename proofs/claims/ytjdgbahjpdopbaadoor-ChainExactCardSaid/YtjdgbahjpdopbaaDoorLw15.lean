/-
  ENGINE, PART 15 (own work): copies out of bytes that are known as a list; what a range holds, said otherwise.
-/
import Derived.Test.YtjdgbahjpdopbaaDoorLw14
namespace Go.LW
set_option linter.unusedSimpArgs false
set_option linter.unusedVariables false
set_option linter.unusedSectionVars false
open Go Go.RowKit

theorem spl_congr {α : Type} {f : Nat → α} {j cnt : Nat} {g g' : Nat → α} (h : ∀ q, q < cnt → g q = g' q) : spl f j cnt g = spl f j cnt g' := by
  funext q
  unfold spl
  split
  · exact h _ (by omega)
  · rfl
def xorTo (f : Nat → Byte) (x : Byte) : Nat → (Nat → Byte)
  | 0 => f
  | t + 1 => upd (xorTo f x t) t (xorTo f x t t ^^^ x)
theorem xorTo_out (f : Nat → Byte) (x : Byte) : ∀ t q, t ≤ q → xorTo f x t q = f q
  | 0, _, _ => rfl
  | t + 1, q, h => by simp only [xorTo]; rw [upd_ne _ _ _ _ (by omega)]; exact xorTo_out f x t q (by omega)
theorem xorTo_at (f : Nat → Byte) (x : Byte) : ∀ t q, q < t → xorTo f x t q = f q ^^^ x
  | t + 1, q, h => by
    simp only [xorTo]
    by_cases hq : q = t
    · subst hq; rw [upd_same, xorTo_out f x q q (Nat.le_refl _)]
    · rw [upd_ne _ _ _ _ hq]; exact xorTo_at f x t q (by omega)

section st
variable {B : Nat} {w0 w : World} {L : List Rg}
/-- the head range, said otherwise -/
theorem St.head {p : Option Nat} {off n : Nat} {f : Nat → Value} {rw : Bool} (h : St B w0 (⟨p, off, n, f, rw⟩ :: L) w) {g : Nat → Value} (hfg : ∀ j, j < n → f j = g j) : St B w0 (⟨p, off, n, g, rw⟩ :: L) w := by
  have hap := List.pairwise_cons.1 h.apart
  refine ⟨h.below, h.base, fun s hs => ?_, fun s hs => ?_, List.pairwise_cons.2 ⟨fun s hs hw => hap.1 s hs hw, hap.2⟩⟩
  · rcases List.mem_cons.1 hs with rfl | hs
    · intro j hj
      obtain ⟨b, h1, h2⟩ := h.at_ _ List.mem_cons_self j hj
      exact ⟨b, h1, by rw [h2]; exact congrArg some (hfg j hj)⟩
    · exact h.at_ s (List.mem_cons_of_mem _ hs)
  · rcases List.mem_cons.1 hs with rfl | hs
    · exact fun hw j hj => h.free (⟨p, off, n, f, rw⟩ : Rg) List.mem_cons_self hw j hj
    · exact h.free s (List.mem_cons_of_mem _ hs)
end st

/-- an array's bytes, as a list -/
def dl (m : Nat) (G : Nat → Byte) : List Byte := (List.range m).map G
theorem dl_length (m : Nat) (G : Nat → Byte) : (dl m G).length = m := by simp [dl]
theorem lit_dl {m : Nat} (G : Nat → Byte) {q : Nat} (h : q < m) : lit (dl m G) q = G q := lit_range G q h
theorem Bs.dl {L : List Rg} (k : Nat) {b m : Nat} {G : Nat → Byte} {rw : Bool} (h : L[k]? = some ⟨some b, 0, m, fun q => VU .u8 (G q), rw⟩) : Bs L (some ⟨b, 0 + 0 * 1, none⟩) (m - 0) (m - 0) (lit (LW.dl m G)) :=
  (Bs.of k h (show m - 0 ≤ m by omega) (Nat.le_refl _)).congr fun q hq => lit_dl G (by omega)

section step
variable {P : Program} {n : Nat} {K : Pend → Env → World → Prop} {l : List It} {O O' : Pend} {e : Env} {w : World} {i ty : Nat} {d : Tmp} {pos : String} {aft : Array Edge} {gd g : Option (Nat × Bool)}
variable {B : Nat} {w0 : World} {L L' : List Rg}
/-- copy of bytes that are known as a list -/
theorem Plan.copyB (hst : St B w0 L w) {t t' : TypeId} {x y : Operand} {ad as : Option Addr} {pd : Option Nat} {od ld cd ls cs offd md jd : Nat} {F : Nat → Byte} {X : List Byte} (kd cnt : Nat) (hu : slB P t 1 = true) (hg : wantedE n e g = true)
    (hx : ev n e x = .slice ad ld cd) (hy : ev n e y = .slice as ls cs)
    (hLd : L[kd]? = some ⟨pd, offd, md, fun q => VU .u8 (F q), true⟩) (hY : Bs L as ls cs (lit X)) (hd : SlV ad pd od ld) (hod : od = offd + jd) (hcnt : cnt = min ls ld) (hjd : jd + cnt ≤ md)
    (hO : EffO aft O (L.set kd ⟨pd, offd, md, fun q => VU .u8 (spl F jd cnt (lit X) q), true⟩) O')
    (h : ∀ w', St B w0 (L.set kd ⟨pd, offd, md, fun q => VU .u8 (spl F jd cnt (lit X) q), true⟩) w' → Plan P n K l O' (updO e (some d) (VN cnt)) w') :
    Plan P n K (⟨i, false, ⟨some d, .call ⟨.builtin .copy, #[x, y], #[t, t']⟩, ty, pos, aft, gd⟩, g⟩ :: l) O e w := by
  obtain ⟨iS, offs, ms, js, os, ps, G, rw, h1, h2, h3, h4, h5, h6⟩ := hY
  have hc : spl F jd cnt (lit X) = spl F jd cnt (fun q => G (js + q)) := spl_congr fun q hq => h6 q (by omega)
  rw [hc] at hO h
  exact Plan.copyU hst kd iS cnt hu hg hx hy hLd h1 hd h2 hod h3 hcnt hjd (by omega) hO h
end step
end Go.LW
