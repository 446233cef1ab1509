/-
  ENGINE X, PART 6 (own work): constant bytes whose block is frozen behind another block's making.
-/
import Derived.Test.YtjdgbahjpdopbaaDoorLx5
namespace Go.LW
set_option linter.unusedSimpArgs false
set_option linter.unusedVariables false
set_option linter.unusedSectionVars false
open Go Go.RowKit

theorem modify_push2 (a : Array Obj) (x y : Obj) (f : Obj → Obj) : ((a.push x).push y).modify a.size f = (a.push (f x)).push y := by
  apply Array.ext
  · simp
  · intro i h1 h2
    simp only [Array.getElem_modify, Array.getElem_push, Array.size_push]
    by_cases h : a.size = i
    · subst h; simp
    · rw [if_neg h]
      by_cases hi : i < a.size + 1
      · have hi2 : i < a.size := by omega
        simp [hi, hi2]
      · simp [hi]
theorem run_convert_old {P : Program} (w : World) (t e : TypeId) (C : Array Value) (Z : Obj) (n c : Nat) (ht : P.underlying t = some (.slice e)) (he : P.underlying e = some (.int .u8)) :
    (convert t t (.slice (some ⟨w.heap.size, 0, none⟩) n c)).run P ((w.alloc (.cells C e)).alloc Z) = .ok (.slice (some ⟨w.heap.size, 0, none⟩) n c) ((w.alloc (.cells C e (C.size, C.size + 1))).alloc Z) := by
  have hsh : ((w.alloc (.cells C e)).alloc Z).shape? w.heap.size = some (e, C.size) := by
    have : ((w.alloc (.cells C e)).alloc Z).heap[w.heap.size]? = some (.cells C e) := by
      show ((w.heap.push (.cells C e)).push Z)[w.heap.size]? = _
      rw [Array.getElem?_push_lt (by simp), Array.getElem_push_eq]
    unfold World.shape?
    rw [this]
  have hfr : ∀ (k : Nat), ((w.alloc (.cells C e)).alloc Z).freeze ⟨w.heap.size, k, none⟩ 1 = (w.alloc (.cells C e (k, k + 1))).alloc Z := fun k => by
    unfold World.freeze
    rw [if_neg (by decide)]
    show ({ (w.alloc (.cells C e)).alloc Z with heap := ((w.heap.push (.cells C e)).push Z).modify w.heap.size _ } : World) = _
    rw [modify_push2]
    rfl
  simp [convert, run_underlying ht, run_underlying he, markStringish, hsh, hfr]

section step3
variable {P : Program} {n : Nat} {K : Pend → Env → World → Prop} {l : List It} {O O' : Pend} {e : Env} {w : World} {i i2 i3 ty ty2 ty3 : Nat} {d d2 d3 : Tmp} {pos pos2 pos3 : String} {aft aft2 aft3 : Array Edge} {gd gd2 gd3 g g2 g3 : Option (Nat × Bool)}
variable {B : Nat} {w0 : World} {L L' : List Rg}
theorem Plan.constMake (hO : PIn O L) (hst : St B w0 L w) {t el t3 : TypeId} {x y : Operand} {len m c : Nat} {k k' : IntKind} {parts : Array (Nat × Operand)} {f : Nat → Value} {vs : List (Nat × Value)} {z : Value} (hu : P.underlying t = some (.slice el)) (he : P.underlying el = some (.int .u8)) (hs : szT P el 1 = true) (hz : (P.info? el).bind (·.zero) = some z)
    (hl : 0 < len * 1) (hl2 : len * 1 ≤ 16777216) (hg : wantedE n e g = true) (hg3 : ∀ v, wantedE n (upd e d v) g3 = true) (hg2 : ∀ v v3, wantedE n (upd (upd e d v) d3 v3) g2 = true) (hx2 : ∀ v v3, ev n (upd (upd e d v) d3 v3) (.tmp d) = v)
    (hv : parts.toList.map (fun p => (p.1, ev n e p.2)) = vs) (hf : fillL (fun i => some (i * 1, 1)) ((List.range (len * 1)).map fun i => z.cells[i % z.cells.size]!) vs = some (catL [(len, f)]))
    (he3 : elD P t3 = some (1, 1, some (VU .u8 0#8))) (hx : ∀ v, ev n (upd e d v) x = .int k (m : Int)) (hy : ∀ v, ev n (upd e d v) y = .int k' (c : Int)) (hlc : m ≤ c) (hc : c ≤ 281474976710656)
    (h : ∀ b b3 w', B ≤ b → B ≤ b3 → Ow (some ⟨b3, 0, none⟩) (some b3) (List.replicate m 0#8).length c (fun _ => 0#8) (List.replicate m 0#8) → St B w0 (⟨some b3, 0, c, fun q => VU .u8 ((fun _ => 0#8 : Nat → Byte) q), true⟩ :: ⟨some b, 0, len, f, false⟩ :: L) w' → Plan P n K l O (upd (upd (upd e d (.slice (some ⟨b, 0, none⟩) len len)) d3 (.slice (some ⟨b3, 0, none⟩) (List.replicate m 0#8).length c)) d2 (.slice (some ⟨b, 0, none⟩) len len)) w') :
    Plan P n K (⟨i, false, ⟨some d, .buildSlice t len parts, ty, pos, aft, gd⟩, g⟩ :: ⟨i3, false, ⟨some d3, .makeSlice t3 x y, ty3, pos3, aft3, gd3⟩, g3⟩ :: ⟨i2, false, ⟨some d2, .convert t t (.tmp d), ty2, pos2, aft2, gd2⟩, g2⟩ :: l) O e w := by
  have hr : (execOp (ev n e) ⟨some d, .buildSlice t len parts, ty, pos, aft, gd⟩).run P w = .ok (.value (.slice (some ⟨w.heap.size, 0, none⟩) len len)) (w.alloc (.cells (catL [(len, f)]).toArray el)) := run_v (by
    have hmap : (parts.map fun (i, x) => (i, ev n e x)).toList = vs := by rw [← hv]; simp
    have hf' := fillL_spec _ _ _ hf
    have hrange : ((Array.range (len * 1)).map (z.cells[· % z.cells.size]!)) = ((List.range (len * 1)).map fun i => z.cells[i % z.cells.size]!).toArray := by
      apply Array.ext'; simp
    simp only [Instr.buildSlice, Sem.run_bind, run_underlying hu w, Result.andThen, szT_spec hs, if_neg (show ¬ len * 1 > 2 ^ 24 by omega), Sem.run_pure, if_neg (show ¬ len * 1 = 0 by omega), run_zeroValue hz, hmap, hrange, hf', newRow, newObj]
    rfl)
  refine Plan.eff hg ?_
  rw [hr]
  have hst1 := hst.allocRo len f el (0, 0)
  refine .inl ⟨PIn.keep (hO.app [⟨some w.heap.size, 0, len, f, false⟩] rfl) hst1, ?_⟩
  rw [show updO e (some d) (.slice (some ⟨w.heap.size, 0, none⟩) len len) = upd e d (.slice (some ⟨w.heap.size, 0, none⟩) len len) from rfl]
  obtain ⟨el3, inf, hu3, hi3, hs3, hby, hz3⟩ := elB_of he3
  have hsz : (w.alloc (.cells (catL [(len, f)]).toArray el)).heap.size = w.heap.size + 1 := by rw [World.size_alloc]
  have hr3 := run_make (P := P) (w.alloc (.cells (catL [(len, f)]).toArray el)) t3 el3 inf _ hu3 hi3 hz3 k k' m c (Int.natCast_nonneg _) (by omega) (by rw [hby]; omega) (by omega)
  have hm : madeCells (VU .u8 0#8 : Value).cells ((c : Int).toNat * inf.size) = (catL [(c, fun _ => VU .u8 0#8)]).toArray := by
    rw [hs3, Int.toNat_natCast, Nat.mul_one, catL_one]
    show madeCells #[VU .u8 0#8] c = _
    unfold madeCells
    apply Array.ext'
    apply List.ext_getElem?
    intro q
    by_cases hq : q < c
    · simp [hq, Nat.mod_one]
    · simp [hq]
  rw [hm, hsz] at hr3
  have hr3' : (execOp (ev n (upd e d (.slice (some ⟨w.heap.size, 0, none⟩) len len))) ⟨some d3, .makeSlice t3 x y, ty3, pos3, aft3, gd3⟩).run P (w.alloc (.cells (catL [(len, f)]).toArray el)) = .ok (.value (.slice (some ⟨w.heap.size + 1, 0, none⟩) (List.replicate m 0#8).length c)) ((w.alloc (.cells (catL [(len, f)]).toArray el)).alloc (.cells (catL [(c, fun _ => VU .u8 0#8)]).toArray el3)) := run_v (by
    rw [hx, hy, hr3]; simp)
  refine Plan.eff (hg3 _) ?_
  rw [hr3']
  have hst2 := hst1.alloc [(c, fun _ => VU .u8 0#8)] el3
  rw [hsz] at hst2
  refine .inl ⟨PIn.keep ((hO.app [⟨some w.heap.size, 0, len, f, false⟩] rfl).app _ rfl) hst2, ?_⟩
  refine Plan.eff (hg2 _ _) ?_
  have hr2 : (execOp (ev n (updO (upd e d (.slice (some ⟨w.heap.size, 0, none⟩) len len)) (some d3) (.slice (some ⟨w.heap.size + 1, 0, none⟩) (List.replicate m 0#8).length c))) ⟨some d2, .convert t t (.tmp d), ty2, pos2, aft2, gd2⟩).run P ((w.alloc (.cells (catL [(len, f)]).toArray el)).alloc (.cells (catL [(c, fun _ => VU .u8 0#8)]).toArray el3)) = .ok (.value (.slice (some ⟨w.heap.size, 0, none⟩) len len)) ((w.alloc (.cells (catL [(len, f)]).toArray el ((catL [(len, f)]).toArray.size, (catL [(len, f)]).toArray.size + 1))).alloc (.cells (catL [(c, fun _ => VU .u8 0#8)]).toArray el3)) := run_v (by
    rw [show ev n (updO (upd e d (.slice (some ⟨w.heap.size, 0, none⟩) len len)) (some d3) (.slice (some ⟨w.heap.size + 1, 0, none⟩) (List.replicate m 0#8).length c)) (.tmp d) = _ from hx2 _ _]
    exact run_convert_old w t el _ _ len len hu he)
  rw [hr2]
  have hst3 := (hst.allocRo len f el ((catL [(len, f)]).toArray.size, (catL [(len, f)]).toArray.size + 1)).alloc [(c, fun _ => VU .u8 0#8)] el3
  rw [World.size_alloc] at hst3
  refine .inl ⟨PIn.keep ((hO.app [⟨some w.heap.size, 0, len, f, false⟩] rfl).app _ rfl) hst3, h _ _ _ hst.base (Nat.le_succ_of_le hst.base) ?_ hst3⟩
  refine ⟨.inr ⟨_, rfl, rfl⟩, by rw [List.length_replicate]; exact hlc, rfl, fun q hq => ?_⟩
  unfold lit
  rw [List.getD_eq_getElem?_getD, List.getElem?_replicate]
  split <;> rfl
/-! the same, op by op: the block is laid; marked later -/
theorem heap_freeze {w : World} {b : Nat} {C : Array Value} {el : TypeId} (hk : w.heap[b]? = some (.cells C el (0, 0))) (k b' : Nat) : (w.freeze ⟨b, k, none⟩ 1).heap[b']? = if b = b' then some (.cells C el (k, k + 1)) else w.heap[b']? := by
  unfold World.freeze
  rw [if_neg (by decide)]
  simp only [Array.getElem?_modify]
  by_cases h : b = b'
  · subst h; rw [if_pos rfl, if_pos rfl, hk]; rfl
  · rw [if_neg h, if_neg h]
theorem size_freeze (w : World) (b k : Nat) : (w.freeze ⟨b, k, none⟩ 1).heap.size = w.heap.size := by
  unfold World.freeze; rw [if_neg (by decide)]; simp
theorem cell_freeze {w : World} {b : Nat} {C : Array Value} {el : TypeId} (hk : w.heap[b]? = some (.cells C el (0, 0))) (k : Nat) (a : Addr) : (w.freeze ⟨b, k, none⟩ 1).cell? a = w.cell? a := by
  unfold World.cell?
  rw [heap_freeze hk]
  by_cases h : b = a.block
  · rw [if_pos h, ← h, hk]
  · rw [if_neg h]
theorem St.freezeC (h : St B w0 L w) {b : Nat} {C : Array Value} {el : TypeId} (hB : B ≤ b) (hk : w.heap[b]? = some (.cells C el (0, 0))) : St B w0 L (w.freeze ⟨b, C.size, none⟩ 1) := by
  refine ⟨h.below.trans ⟨?_, ?_, ?_, ?_, fun k hk' => ?_⟩, by rw [size_freeze]; exact h.base, fun r hr j hj => ?_, fun r hr hw j hj => ?_, h.apart⟩
  · unfold World.freeze; rw [if_neg (by decide)]
  · unfold World.freeze; rw [if_neg (by decide)]
  · unfold World.freeze; rw [if_neg (by decide)]
  · rw [size_freeze]; exact Nat.le_refl _
  · rw [heap_freeze hk, if_neg (by omega)]
  · obtain ⟨b', hp, hc⟩ := h.at_ r hr j hj
    exact ⟨b', hp, by rw [cell_freeze hk]; exact hc⟩
  · obtain ⟨b', hp, hc⟩ := h.at_ r hr j hj
    obtain ⟨b2, hp2, hB2, hf⟩ := h.free r hr hw j hj
    refine ⟨b2, hp2, hB2, ?_⟩
    obtain rfl : b' = b2 := by rw [hp] at hp2; exact Option.some.inj hp2
    unfold World.frozen? at hf ⊢
    rw [heap_freeze hk]
    by_cases hb : b = b'
    · subst hb
      rw [if_pos rfl]
      unfold World.cell? at hc
      dsimp only at hc
      rw [hk] at hc
      have hlt : r.off + j < C.size := by
        have := (Array.getElem?_eq_some_iff.1 (by simpa using hc)).1
        exact this
      simp; omega
    · rw [if_neg hb]; exact hf
theorem run_convert_at {P : Program} {w : World} {b : Nat} {t e : TypeId} {C : Array Value} (hk : w.heap[b]? = some (.cells C e (0, 0))) (n c : Nat) (ht : P.underlying t = some (.slice e)) (he : P.underlying e = some (.int .u8)) :
    (convert t t (.slice (some ⟨b, 0, none⟩) n c)).run P w = .ok (.slice (some ⟨b, 0, none⟩) n c) (w.freeze ⟨b, C.size, none⟩ 1) := by
  have hsh : w.shape? b = some (e, C.size) := by unfold World.shape?; rw [hk]
  simp [convert, run_underlying ht, run_underlying he, markStringish, hsh]
theorem Plan.constBuild (hO : PIn O L) (hst : St B w0 L w) {t el : TypeId} {len : Nat} {parts : Array (Nat × Operand)} {f : Nat → Value} {vs : List (Nat × Value)} {z : Value} (hu : P.underlying t = some (.slice el)) (hs : szT P el 1 = true) (hz : (P.info? el).bind (·.zero) = some z)
    (hl : 0 < len * 1) (hl2 : len * 1 ≤ 16777216) (hg : wantedE n e g = true)
    (hv : parts.toList.map (fun p => (p.1, ev n e p.2)) = vs) (hf : fillL (fun i => some (i * 1, 1)) ((List.range (len * 1)).map fun i => z.cells[i % z.cells.size]!) vs = some (catL [(len, f)]))
    (h : ∀ b w', B ≤ b → w'.heap[b]? = some (.cells (catL [(len, f)]).toArray el (0, 0)) → St B w0 (⟨some b, 0, len, f, false⟩ :: L) w' → Plan P n K l O (upd e d (.slice (some ⟨b, 0, none⟩) len len)) w') :
    Plan P n K (⟨i, false, ⟨some d, .buildSlice t len parts, ty, pos, aft, gd⟩, g⟩ :: l) O e w := by
  have hr : (execOp (ev n e) ⟨some d, .buildSlice t len parts, ty, pos, aft, gd⟩).run P w = .ok (.value (.slice (some ⟨w.heap.size, 0, none⟩) len len)) (w.alloc (.cells (catL [(len, f)]).toArray el)) := run_v (by
    have hmap : (parts.map fun (i, x) => (i, ev n e x)).toList = vs := by rw [← hv]; simp
    have hf' := fillL_spec _ _ _ hf
    have hrange : ((Array.range (len * 1)).map (z.cells[· % z.cells.size]!)) = ((List.range (len * 1)).map fun i => z.cells[i % z.cells.size]!).toArray := by
      apply Array.ext'; simp
    simp only [Instr.buildSlice, Sem.run_bind, run_underlying hu w, Result.andThen, szT_spec hs, if_neg (show ¬ len * 1 > 2 ^ 24 by omega), Sem.run_pure, if_neg (show ¬ len * 1 = 0 by omega), run_zeroValue hz, hmap, hrange, hf', newRow, newObj]
    rfl)
  refine Plan.eff hg ?_
  rw [hr]
  have hst1 := hst.allocRo len f el (0, 0)
  exact .inl ⟨PIn.keep (hO.app [⟨some w.heap.size, 0, len, f, false⟩] rfl) hst1, h _ _ hst.base (heap_alloc_new _ _) hst1⟩
theorem Plan.constConv (hO : PIn O L) (hst : St B w0 L w) {b len : Nat} {t el : TypeId} {x : Operand} {C : Array Value} (hB : B ≤ b) (hk : w.heap[b]? = some (.cells C el (0, 0))) (hu : P.underlying t = some (.slice el)) (he : P.underlying el = some (.int .u8)) (hg : wantedE n e g = true) (hx : ev n e x = .slice (some ⟨b, 0, none⟩) len len)
    (h : ∀ w', St B w0 L w' → Plan P n K l O (upd e d (.slice (some ⟨b, 0, none⟩) len len)) w') :
    Plan P n K (⟨i, false, ⟨some d, .convert t t x, ty, pos, aft, gd⟩, g⟩ :: l) O e w := by
  refine Plan.eff hg ?_
  have hr : (execOp (ev n e) ⟨some d, .convert t t x, ty, pos, aft, gd⟩).run P w = .ok (.value (.slice (some ⟨b, 0, none⟩) len len)) (w.freeze ⟨b, C.size, none⟩ 1) := run_v (by
    rw [hx]; exact run_convert_at hk len len hu he)
  rw [hr]
  have hst1 := hst.freezeC hB hk
  exact .inl ⟨PIn.keep hO hst1, h _ hst1⟩
theorem Plan.makeK (hO : PIn O L) (hst : St B w0 L w) {t3 : TypeId} {x y : Operand} {m c : Nat} {k k' : IntKind} (he3 : elD P t3 = some (1, 1, some (VU .u8 0#8))) (hg : wantedE n e g = true) (hx : ev n e x = .int k (m : Int)) (hy : ev n e y = .int k' (c : Int)) (hlc : m ≤ c) (hc : c ≤ 281474976710656)
    (h : ∀ (b : Nat) (w' : World), B ≤ b → (∀ (q : Nat) (v : Obj), w.heap[q]? = some v → w'.heap[q]? = some v) → Ow (some ⟨b, 0, none⟩) (some b) (List.replicate m 0#8).length c (fun _ => 0#8) (List.replicate m 0#8) → St B w0 (⟨some b, 0, c, fun q => VU .u8 ((fun _ => 0#8 : Nat → Byte) q), true⟩ :: L) w' → Plan P n K l O (updO e (some d) (.slice (some ⟨b, 0, none⟩) (List.replicate m 0#8).length c)) w') :
    Plan P n K (⟨i, false, ⟨some d, .makeSlice t3 x y, ty, pos, aft, gd⟩, g⟩ :: l) O e w := by
  obtain ⟨el3, inf, hu3, hi3, hs3, hby, hz3⟩ := elB_of he3
  have hr3 := run_make (P := P) w t3 el3 inf _ hu3 hi3 hz3 k k' m c (Int.natCast_nonneg _) (by omega) (by rw [hby]; omega) (by omega)
  have hm : madeCells (VU .u8 0#8 : Value).cells ((c : Int).toNat * inf.size) = (catL [(c, fun _ => VU .u8 0#8)]).toArray := by
    rw [hs3, Int.toNat_natCast, Nat.mul_one, catL_one]
    show madeCells #[VU .u8 0#8] c = _
    unfold madeCells
    apply Array.ext'
    apply List.ext_getElem?
    intro q
    by_cases hq : q < c
    · simp [hq, Nat.mod_one]
    · simp [hq]
  rw [hm] at hr3
  have hr3' : (execOp (ev n e) ⟨some d, .makeSlice t3 x y, ty, pos, aft, gd⟩).run P w = .ok (.value (.slice (some ⟨w.heap.size, 0, none⟩) (List.replicate m 0#8).length c)) (w.alloc (.cells (catL [(c, fun _ => VU .u8 0#8)]).toArray el3)) := run_v (by
    rw [hx, hy, hr3]; simp)
  refine Plan.eff hg ?_
  rw [hr3']
  have hst2 := hst.alloc [(c, fun _ => VU .u8 0#8)] el3
  refine .inl ⟨PIn.keep (hO.app _ rfl) hst2, h _ _ hst.base (fun q v hv => ?_) ?_ hst2⟩
  · have hq : q < w.heap.size := by
      rcases Nat.lt_or_ge q w.heap.size with hq | hq
      · exact hq
      · rw [Array.getElem?_eq_none hq] at hv; cases hv
    rw [((Below.refl w.heap.size w).alloc (Nat.le_refl _) _).block q hq]; exact hv
  · refine ⟨.inr ⟨_, rfl, rfl⟩, by rw [List.length_replicate]; exact hlc, rfl, fun q hq => ?_⟩
    unfold lit
    rw [List.getD_eq_getElem?_getD, List.getElem?_replicate]
    split <;> rfl
end step3
end Go.LW
