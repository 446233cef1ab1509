/-
  ENGINE, PART 14 (own work): bytes of a constant string; slices made.
-/
import Derived.Test.YtjdgbahjpdopbaaDoorLw13
import Derived.Lib.SlBytesConst
import Derived.Laws.MakeOwn
namespace Go.LW
set_option linter.unusedSimpArgs false
set_option linter.unusedVariables false
set_option linter.unusedSectionVars false
open Go Go.RowKit

theorem St.allocRo {B : Nat} {w0 w : World} {L : List Rg} (h : St B w0 L w) (m : Nat) (f : Nat → Value) (T : TypeId) (fr : Nat × Nat) : St B w0 (⟨some w.heap.size, 0, m, f, false⟩ :: L) (w.alloc (.cells (catL [(m, f)]).toArray T fr)) := by
  have hb : Below w.heap.size w (w.alloc (.cells (catL [(m, f)]).toArray T fr)) := (Below.refl _ _).alloc (Nat.le_refl _) _
  have hnew : (w.alloc (.cells (catL [(m, f)]).toArray T fr)).heap[w.heap.size]? = some (.cells (catL [(m, f)]).toArray T fr) := heap_alloc_new _ _
  refine (h.later hb).ro (fun j hj => ⟨w.heap.size, rfl, ?_⟩) (fun s hs _ _ => ?_)
  · have hj : j < m := hj
    simp only [World.cell?, hnew]
    simp [catL_one, hj]
  · by_cases hn : s.n = 0
    · exact .inr (.inr (.inr (.inr hn)))
    · refine .inl fun he => ?_
      have := Rg.at_lt (h.at_ s hs) he.symm hn
      omega

section step
variable {P : Program} {n : Nat} {K : Pend → Env → World → Prop} {l : List It} {O O' : Pend} {e : Env} {w : World} {i i2 ty ty2 : Nat} {d d2 : Tmp} {pos pos2 : String} {aft aft2 : Array Edge} {gd gd2 g g2 : Option (Nat × Bool)}
variable {B : Nat} {w0 : World} {L L' : List Rg}

/-- bytes of a constant string: the row is laid, and marked -/
theorem Plan.constBytes (hst : St B w0 L w) {t el : TypeId} {len : Nat} {parts : Array (Nat × Operand)} {f : Nat → Value} {vs : List (Nat × Value)} {z : Value} (hu : P.underlying t = some (.slice el)) (he : P.underlying el = some (.int .u8)) (hs : szT P el 1 = true) (hz : (P.info? el).bind (·.zero) = some z)
    (hl : 0 < len * 1) (hl2 : len * 1 ≤ 16777216) (hg : wantedE n e g = true) (hg2 : ∀ v, wantedE n (upd e d v) g2 = true) (hx2 : ∀ v, ev n (upd e d v) (.tmp d) = v)
    (hv : parts.toList.map (fun p => (p.1, ev n e p.2)) = vs) (hf : fillL (fun i => some (i * 1, 1)) ((List.range (len * 1)).map fun i => z.cells[i % z.cells.size]!) vs = some (catL [(len, f)]))
    (h : ∀ b w', B ≤ b → St B w0 (⟨some b, 0, len, f, false⟩ :: L) w' → Plan P n K l [] (upd (upd e d (.slice (some ⟨b, 0, none⟩) len len)) d2 (.slice (some ⟨b, 0, none⟩) len len)) w') :
    Plan P n K (⟨i, false, ⟨some d, .buildSlice t len parts, ty, pos, aft, gd⟩, g⟩ :: ⟨i2, false, ⟨some d2, .convert t t (.tmp d), ty2, pos2, aft2, gd2⟩, g2⟩ :: l) [] e w := by
  have hr : (execOp (ev n e) ⟨some d, .buildSlice t len parts, ty, pos, aft, gd⟩).run P w = .ok (.value (.slice (some ⟨w.heap.size, 0, none⟩) len len)) (w.alloc (.cells (catL [(len, f)]).toArray el)) := run_v (by
    have hmap : (parts.map fun (i, x) => (i, ev n e x)).toList = vs := by rw [← hv]; simp
    have hf' := fillL_spec _ _ _ hf
    have hrange : ((Array.range (len * 1)).map (z.cells[· % z.cells.size]!)) = ((List.range (len * 1)).map fun i => z.cells[i % z.cells.size]!).toArray := by
      apply Array.ext'; simp
    simp only [Instr.buildSlice, Sem.run_bind, run_underlying hu w, Result.andThen, szT_spec hs, if_neg (show ¬ len * 1 > 2 ^ 24 by omega), Sem.run_pure, if_neg (show ¬ len * 1 = 0 by omega), run_zeroValue hz, hmap, hrange, hf', newRow, newObj]
    rfl)
  refine Plan.eff hg ?_
  rw [hr]
  refine .inl ⟨fun p hp => (by cases hp), ?_⟩
  refine Plan.eff (hg2 _) ?_
  have hr2 : (execOp (ev n (upd e d (.slice (some ⟨w.heap.size, 0, none⟩) len len))) ⟨some d2, .convert t t (.tmp d), ty2, pos2, aft2, gd2⟩).run P (w.alloc (.cells (catL [(len, f)]).toArray el)) = .ok (.value (.slice (some ⟨w.heap.size, 0, none⟩) len len)) (w.alloc (.cells (catL [(len, f)]).toArray el ((catL [(len, f)]).toArray.size, (catL [(len, f)]).toArray.size + 1))) := run_v (by
    rw [hx2]
    exact Lib.run_convert_bytes_const w t el _ len len hu he)
  rw [show updO e (some d) (.slice (some ⟨w.heap.size, 0, none⟩) len len) = upd e d (.slice (some ⟨w.heap.size, 0, none⟩) len len) from rfl, hr2]
  exact .inl ⟨fun p hp => (by cases hp), h _ _ hst.base (hst.allocRo len f el _)⟩

theorem Plan.makeU (hst : St B w0 L w) {t : TypeId} {x y : Operand} {by' c : Nat} {z : Value} {k k' : IntKind} (he : elD P t = some (1, by', some z)) (hzc : z.cells = #[z]) (hg : wantedE n e g = true) (hx : ev n e x = .int k (c : Int)) (hy : ev n e y = .int k' (c : Int)) (hc : c * by' ≤ 281474976710656) (hc2 : c ≤ 16777216)
    (hO : ∀ r, EffO aft O (r :: L) O')
    (h : ∀ b w', B ≤ b → St B w0 (⟨some b, 0, c, fun _ => z, true⟩ :: L) w' → Plan P n K l O' (updO e (some d) (.slice (some ⟨b, 0, none⟩) c c)) w') :
    Plan P n K (⟨i, false, ⟨some d, .makeSlice t x y, ty, pos, aft, gd⟩, g⟩ :: l) O e w := by
  obtain ⟨el, inf, hu, hi, hs, hby, hz⟩ := elB_of he
  have hr := run_makeSlice (P := P) (w := w) t el inf z hu hi hz k k' c c (Int.natCast_nonneg _) (Int.le_refl _) (by rw [hs, Int.toNat_natCast, Nat.mul_one]; exact hc2) (by rw [hby, ← Int.natCast_mul, Nat.mul_comm]; exact Int.ofNat_le.2 hc) (by omega)
  have hm : madeCells z.cells ((c : Int).toNat * inf.size) = (catL [(c, fun _ => z)]).toArray := by
    rw [hzc, hs, Int.toNat_natCast, Nat.mul_one, catL_one]
    unfold madeCells
    apply Array.ext'
    apply List.ext_getElem?
    intro q
    by_cases hq : q < c
    · simp [hq, Nat.mod_one]
    · simp [hq]
  rw [hm] at hr
  refine Plan.effS (w' := w.alloc (.cells (catL [(c, fun _ => z)]).toArray el)) (v := .slice (some ⟨w.heap.size, 0, none⟩) c c) hg (run_v ?_) (hst.alloc [(c, fun _ => z)] el) (hO _) (fun w' hw' => h _ w' hst.base hw')
  rw [hx, hy, hr]
  simp
end step
end Go.LW
