/-
  ENGINE X, PART 5 (own work): zeros appended; slices of three; numbers added with a carry.
-/
import Derived.Test.YtjdgbahjpdopbaaDoorLx4
import Derived.Laws.Externs
import Derived.Lib.SlBytesConst
namespace Go.LW
set_option linter.unusedSimpArgs false
set_option linter.unusedVariables false
set_option linter.unusedSectionVars false
open Go Go.RowKit

section step
variable {P : Program} {n : Nat} {K : Pend → Env → World → Prop} {l : List It} {O O' : Pend} {e : Env} {w : World} {i ty : Nat} {d : Tmp} {pos : String} {aft : Array Edge} {gd g : Option (Nat × Bool)}
variable {B : Nat} {w0 : World} {L L' : List Rg}

/-! append(x, make([]byte, n)...) -/
def zerosS (n : Nat) : ByteArray := ⟨(Array.replicate n 0)⟩
theorem zerosS_cells (n : Nat) : byteCells (zerosS n) = (List.range (n * 1)).map fun _ => VU .u8 0#8 := by
  unfold byteCells zerosS
  simp
  apply List.ext_getElem?
  intro q
  simp [List.getElem?_replicate]
  by_cases hq : q < n <;> simp [hq]
theorem run_append_zeros {t tI tS ty : TypeId} (he : elB P t 1 1 (VU .u8 0#8)) (hI : P.underlying tI = some (.int .i64)) (hS : P.underlying tS = some .string) {a : Option Addr} {len cap m : Nat} (hlc : len ≤ cap) (hb : len + m ≤ 140737488355328) (w : World) :
    (Builtin.append_ #[t, tI] ty #[.slice a len cap, VN m]).run P w = (Builtin.append_ #[t, tS] ty #[.slice a len cap, .string (zerosS m)]).run P w := by
  obtain ⟨el, inf, hu, hi, hs1, hby, hz⟩ := he
  have hw : IntKind.i64.wrap (m : Int) = m := wrap_i64_in _ (by omega)
  have hsz : (zerosS m).size = m := by simp [zerosS, ByteArray.size]
  have hcells : (Builtin.firstCells 1 m (.string (zerosS m))) = (if m * 1 = 0 then (pure #[] : Sem (Array Value)) else pure (Builtin.zeroCells (VU .u8 0#8 : Value).cells m)) := by
    have h1 := zerosS_cells m
    unfold byteCells at h1
    have h2 : ((zerosS m).extract 0 m) = zerosS m := by
      apply ByteArray.ext
      simp [zerosS]
    show (pure (((zerosS m).extract 0 m).data.map fun b => Value.int .u8 (b.toNat : Int)) : Sem (Array Value)) = _
    rw [h2]
    have h3 : ((zerosS m).data.map fun b => Value.int .u8 (b.toNat : Int)) = (Builtin.zeroCells (VU .u8 0#8 : Value).cells m) := by
      apply Array.ext'
      rw [Array.toList_map, h1]
      show _ = (Builtin.zeroCells #[VU .u8 0#8] m).toList
      unfold Builtin.zeroCells
      simp only [Array.toList_map, Array.toList_range]
      refine List.map_congr_left fun q _ => ?_
      simp [Nat.mod_one]
    split
    · rename_i h0
      obtain rfl : m = 0 := by omega
      simp [zerosS]
    · rw [h3]
  have hA : ∀ w : World, (asInt (VN m)).run P w = .ok (m : Int) w := fun _ => rfl
  have hzv : ∀ w : World, (zeroValue el).run P w = .ok (VU .u8 0#8) w := fun w => run_zeroValue (by rw [hi]; exact hz) w
  have n1 : ¬ ((m : Int) < 0) := by omega
  have n2 : ¬ (281474976710656 < (m : Int)) := by omega
  have n3 : ¬ (9223372036854775807 < (len : Int) + (m : Int)) := by omega
  have hw0 : IntKind.i64.wrap 0 = 0 := by decide
  by_cases hm0 : m = 0
  · subst hm0
    by_cases hroom : len ≤ cap
    · simp [Builtin.append_, run_underlying hu, run_underlying hI, run_underlying hS, sizeOf, typeInfo, hi, hs1, hby, hA, Builtin.lenOf, hsz, hw, hw0, hcells, hroom, hzv]
    · omega
  · by_cases hroom : len + m ≤ cap
    · simp [Builtin.append_, run_underlying hu, run_underlying hI, run_underlying hS, sizeOf, typeInfo, hi, hs1, hby, hA, Builtin.lenOf, hsz, hw, hcells, hroom, hzv, n1, n2, n3, hm0]
    · have hfit := growslice_fits (need := len + m) (old := cap) (bytes := inf.bytes) (by omega) (by rw [hby]; omega)
      have n4 : ¬ (281474976710656 < Builtin.nextslicecap (len + m) cap) := by rw [hby] at hfit; omega
      simp [Builtin.append_, run_underlying hu, run_underlying hI, run_underlying hS, sizeOf, typeInfo, hi, hs1, hby, hA, Builtin.lenOf, hsz, hw, hcells, hroom, hzv, n1, n2, n3, n4, hm0]
theorem Plan.appendZ (hst : St B w0 L w) {t tI tS : TypeId} {x y : Operand} {len cap m : Nat} {a : Option Addr} {pb : Option Nat} {F : Nat → Byte} {X : List Byte} (k : Nat) (hO : Ow a pb len cap F X) (he : elD P t = some (1, 1, some (VU .u8 0#8))) (hI : P.underlying tI = some (.int .i64)) (hS : P.underlying tS = some .string) (hg : wantedE n e g = true)
    (hx : ev n e x = .slice a len cap) (hy : ev n e y = VN m) (hL : L[k]? = some ⟨pb, 0, cap, fun q => VU .u8 (F q), true⟩) (hb : len + m ≤ 140737488355328)
    (hw : ∀ r, EffO aft O (L.set k r) O')
    (h : ∀ a' pb' cap' (F' : Nat → Byte) w', Ow a' pb' (X ++ List.replicate m 0#8).length cap' F' (X ++ List.replicate m 0#8) → St B w0 (L.set k ⟨pb', 0, cap', fun q => VU .u8 (F' q), true⟩) w' → Plan P n K l O' (updO e (some d) (.slice a' (X ++ List.replicate m 0#8).length cap')) w') :
    Plan P n K (⟨i, false, ⟨some d, .call ⟨.builtin .append, #[x, y], #[t, tI]⟩, ty, pos, aft, gd⟩, g⟩ :: l) O e w := by
  have hsrc : Src P 1 tS (.string (zerosS m)) m ((List.range (m * 1)).map fun q => VU .u8 ((fun _ => 0#8 : Nat → Byte) q)) w := by
    have h1 := Src.ofString (P := P) w hS (zerosS m)
    rw [zerosS_cells, show (zerosS m).size = m by simp [zerosS, ByteArray.size]] at h1
    exact h1
  obtain ⟨w', a', pb', cap', ip, hr, ho', hcap, hst'⟩ := run_appendS (P := P) (ty := ty) (s := 1) (zf := fun _ => VU .u8 0#8) hst (elB_of he) rfl (fun q hq => by cases Nat.lt_one_iff.1 hq; rfl) (by rw [Nat.mul_one]; exact hL) hO.ho hsrc hO.hc (by omega) (by omega)
  have hfun : (fun q => if ip = true ∨ q < (len + m) * 1 then spl (fun q => VU .u8 (F q)) (len * 1) (m * 1) (fun q => VU .u8 ((fun _ => 0#8 : Nat → Byte) q)) q else VU .u8 0#8) = fun q => VU .u8 (if ip = true ∨ q < len + m then spl F len m (fun _ => 0#8) q else 0#8) := by
    funext q
    simp only [Nat.mul_one, ← spl_map]
    split <;> rfl
  rw [hfun, Nat.mul_one] at hst'
  have hl : (X ++ List.replicate m 0#8).length = len + m := by rw [List.length_append, List.length_replicate, hO.hl]
  refine Plan.effS hg (w' := w') (v := .slice a' (len + m) cap') (run_blt2 fun c => ?_) hst' (hw _) fun w' hw' => ?_
  · rw [hx, hy]
    simp only [builtin, Sem.run_bind, run_append_zeros (elB_of he) hI hS hO.hc hb, hr]
    rfl
  · rw [← hl]
    refine h a' pb' cap' _ w' ⟨ho', by rw [hl]; exact hcap, rfl, fun q hq => ?_⟩ hw'
    rw [hl] at hq
    rw [if_pos (.inr hq), lit_app, hO.hl]
    by_cases h2 : q < len
    · rw [if_pos h2, spl_out _ _ _ _ _ (by omega), hO.hF q h2]
    · rw [if_neg h2, spl_in _ _ _ _ _ (by omega)]
      unfold lit
      rw [List.getD_eq_getElem?_getD, List.getElem?_replicate]
      split <;> rfl

/-! a slice of three, from the head on: the rest is given up -/
theorem St.shrink (h : St B w0 L w) {k m' m : Nat} {p : Option Nat} {off : Nat} {f : Nat → Value} {rw' : Bool} (hL : L[k]? = some ⟨p, off, m, f, rw'⟩) (hm : m' ≤ m) : St B w0 (L.set k ⟨p, off, m', f, rw'⟩) w := by
  obtain ⟨hk, hLk⟩ := List.getElem?_eq_some_iff.1 hL
  refine ⟨h.below, h.base, fun r hr => ?_, fun r hr => ?_, ?_⟩
  · rcases List.mem_or_eq_of_mem_set hr with h1 | rfl
    · exact h.at_ r h1
    · intro j hj
      have := h.mem hL j (show j < m by simp only at hj; omega)
      exact this
  · rcases List.mem_or_eq_of_mem_set hr with h1 | rfl
    · exact h.free r h1
    · intro hrw j hj
      have := h.free _ (List.mem_of_getElem? hL) hrw j (show j < m by simp only at hj; omega)
      exact this
  · rw [List.pairwise_iff_getElem]
    intro i j hi hj hij
    have hp := List.pairwise_iff_getElem.1 h.apart i j (by simpa using hi) (by simpa using hj) hij
    rw [List.getElem_set, List.getElem_set]
    have key : ∀ s : Rg, (Rg.mk p off m f rw').apart s → (Rg.mk p off m' f rw').apart s := fun s hs hr => by
      rcases hs hr with h1 | h1 | h1 | h1 | h1
      · exact .inl h1
      · exact .inr (.inl (by simp only at h1 ⊢; omega))
      · exact .inr (.inr (.inl h1))
      · exact .inr (.inr (.inr (.inl (by simp only at h1 ⊢; omega))))
      · exact .inr (.inr (.inr (.inr h1)))
    split
    · split
      · omega
      · rename_i h1 h2
        subst h1
        rw [hLk] at hp
        exact key _ hp
    · split
      · rename_i h1 h2
        subst h2
        rw [hLk] at hp
        exact (key _ hp.symm).symm
      · exact hp
theorem Ow.cut {a : Option Addr} {pb : Option Nat} {len cap : Nat} {F : Nat → Byte} {X : List Byte} (h : Ow a pb len cap F X) {m : Nat} (hm : m ≤ len) (ha : ¬ (m = 0 ∧ False)) : Ow a pb (seg X 0 m).length m F (seg X 0 m) := by
  have hl : (seg X 0 m).length = m := by rw [seg_length (by rw [h.hl]; exact hm), Nat.sub_zero]
  refine ⟨?_, by omega, rfl, fun q hq => ?_⟩
  · rcases h.ho with ⟨h1, h2, h3⟩ | h1
    · exact .inl ⟨by have := h.hc; omega, h2, h3⟩
    · exact .inr h1
  · rw [hl] at hq
    rw [lit_seg (by rw [h.hl]; exact hm) (by omega), Nat.zero_add]
    exact h.hF q (by omega)
theorem Plan.sl3O (hst : St B w0 L w) {t : TypeId} {x y z : Operand} {a : Option Addr} {pb : Option Nat} {len cap m : Nat} {F : Nat → Byte} {X : List Byte} (k : Nat) (hO : Ow a pb len cap F X) (ha : slB P t 1 = true) (hg : wantedE n e g = true) (hx : ev n e x = .slice a len cap) (hy : ∃ kd, ev n e y = .int kd (m : Int)) (hz : ∃ kd, ev n e z = .int kd (m : Int)) (hm : m ≤ len)
    (hL : L[k]? = some ⟨pb, 0, cap, fun q => VU .u8 (F q), true⟩)
    (h : Ow a pb (seg X 0 m).length m F (seg X 0 m) → St B w0 (L.set k ⟨pb, 0, m, fun q => VU .u8 (F q), true⟩) w → Plan P n K l O (upd e d (.slice a (seg X 0 m).length m)) w) : Plan P n K (⟨i, true, ⟨some d, .slice t x none (some y) (some z), ty, pos, aft, gd⟩, g⟩ :: l) O e w := by
  have hc := hO.hc
  have hl : (seg X 0 m).length = m := by rw [seg_length (by rw [hO.hl]; exact hm), Nat.sub_zero]
  have hcut := hO.cut hm (fun h => h.2)
  refine Plan.val hg (fun w => run_v ?_) (h hcut (hst.shrink hL (by omega)))
  obtain ⟨el, hu, hs⟩ := slB_spec ha
  obtain ⟨ky, hy⟩ := hy
  obtain ⟨kz, hz⟩ := hz
  rw [hx]
  have hbd : (Instr.sliceBounds true len cap none (some (ev n e y)) (some (ev n e z))).run P w = .ok (0, m, m) w := by
    unfold Instr.sliceBounds
    simp [hy, hz, run_sliceBound (show m ≤ cap by omega), run_sliceBound (Nat.le_refl m)]
  have hadd : a.map (·.add (0 * 1)) = a := by
    cases a with
    | none => rfl
    | some a => simp [Addr.add]
  simp only [Option.map_none, Option.map_some, Instr.sliceAt, Instr.slice, Sem.run_bind, run_underlying hu w, Result.andThen, hbd, szT_spec hs, Sem.run_pure, hl, Nat.sub_zero]
  rw [hadd]
  split <;> rfl

/-! numbers added with a carry -/
theorem Plan.add64 {f : FuncId} {fn : Func} {x y c : Operand} {at' : Array TypeId} {X Y C : BitVec 64} (hf : P.funcs[f]? = some fn) (hname : (fn.name == "runtime.NumGoroutine") = false) (hb : fn.body.isNone = true) (hn : Extern.findNext fn = none) (he : Extern.find fn = some add64Entry)
    (hg : wantedE n e g = true) (hx : ev n e x = VU .u64 X) (hy : ev n e y = VU .u64 Y) (hc : ev n e c = VU .u64 C) (hC : C.toNat ≤ 1)
    (h : Plan P n K l O (upd e d (.tuple #[VU .u64 (X + Y + C), VU .u64 (BitVec.ofNat 64 ((X.toNat + Y.toNat + C.toNat) / 2 ^ 64))])) w) :
    Plan P n K (⟨i, false, ⟨some d, .call ⟨.value (.func f), #[x, y, c], at'⟩, ty, pos, aft, gd⟩, g⟩ :: l) O e w := by
  have e1 : ((X.toNat : Int) + Y.toNat + C.toNat) % 18446744073709551616 = ((X + Y + C).toNat : Int) := by
    rw [BitVec.toNat_add, BitVec.toNat_add]; omega
  have e2 : ((X.toNat : Int) + Y.toNat + C.toNat) / 18446744073709551616 = ((BitVec.ofNat 64 ((X.toNat + Y.toNat + C.toNat) / 2 ^ 64)).toNat : Int) := by
    have := X.isLt; have := Y.isLt
    rw [BitVec.toNat_ofNat]; omega
  refine Plan.eff hg ?_
  have hρ : ev n e (.func f) = .func (.func f) #[] #[] := rfl
  have h1 := run_callFunc_extern (P := P) hf hname hb hn he #[VU .u64 X, VU .u64 Y, VU .u64 C] w
  rw [run_add64 _ _ _ (by omega) (by omega) (by omega) (by omega) w, e1, e2] at h1
  simp only [execOp, resolve, hρ, Deferred.ofValue, Sem.run_bind, Sem.run_pure, Result.andThen, invoke]
  have h2 : (#[] ++ Array.map (ev n e) #[x, y, c] ++ #[] : Array Value) = #[VU .u64 X, VU .u64 Y, VU .u64 C] := by simp [hx, hy, hc]
  rw [h2, h1]
  exact .inl ⟨fun p _ hp => hp, h⟩
theorem Plan.quoIw {t yt : TypeId} {x y : Operand} {a b : Int} (hg : wantedE n e g = true) (hx : ev n e x = .int .i64 a) (hy : ev n e y = .int .i64 b) (hb : b ≠ 0) (hr : -9223372036854775808 ≤ a.tdiv b ∧ a.tdiv b ≤ 9223372036854775807)
    (h : Plan P n K l O (upd e d (.int .i64 (a.tdiv b))) w) : Plan P n K (⟨i, true, ⟨some d, .binOp .quo t x y yt, ty, pos, aft, gd⟩, g⟩ :: l) O e w :=
  Plan.quoI hg hx hy hb (by rw [wrap_i64_in _ hr]; exact h)
end step
section step2
variable {P : Program} {n : Nat} {K : Pend → Env → World → Prop} {l : List It} {O O' : Pend} {e : Env} {w : World} {i i2 ty ty2 : Nat} {d d2 : Tmp} {pos pos2 : String} {aft aft2 : Array Edge} {gd gd2 g g2 : Option (Nat × Bool)}
variable {B : Nat} {w0 : World} {L L' : List Rg}
theorem Plan.constBytesO (hO : PIn O L) (hst : St B w0 L w) {t el : TypeId} {len : Nat} {parts : Array (Nat × Operand)} {f : Nat → Value} {vs : List (Nat × Value)} {z : Value} (hu : P.underlying t = some (.slice el)) (he : P.underlying el = some (.int .u8)) (hs : szT P el 1 = true) (hz : (P.info? el).bind (·.zero) = some z)
    (hl : 0 < len * 1) (hl2 : len * 1 ≤ 16777216) (hg : wantedE n e g = true) (hg2 : ∀ v, wantedE n (upd e d v) g2 = true) (hx2 : ∀ v, ev n (upd e d v) (.tmp d) = v)
    (hv : parts.toList.map (fun p => (p.1, ev n e p.2)) = vs) (hf : fillL (fun i => some (i * 1, 1)) ((List.range (len * 1)).map fun i => z.cells[i % z.cells.size]!) vs = some (catL [(len, f)]))
    (h : ∀ b w', B ≤ b → St B w0 (⟨some b, 0, len, f, false⟩ :: L) w' → Plan P n K l O (upd (upd e d (.slice (some ⟨b, 0, none⟩) len len)) d2 (.slice (some ⟨b, 0, none⟩) len len)) w') :
    Plan P n K (⟨i, false, ⟨some d, .buildSlice t len parts, ty, pos, aft, gd⟩, g⟩ :: ⟨i2, false, ⟨some d2, .convert t t (.tmp d), ty2, pos2, aft2, gd2⟩, g2⟩ :: l) O e w := by
  have hr : (execOp (ev n e) ⟨some d, .buildSlice t len parts, ty, pos, aft, gd⟩).run P w = .ok (.value (.slice (some ⟨w.heap.size, 0, none⟩) len len)) (w.alloc (.cells (catL [(len, f)]).toArray el)) := run_v (by
    have hmap : (parts.map fun (i, x) => (i, ev n e x)).toList = vs := by rw [← hv]; simp
    have hf' := fillL_spec _ _ _ hf
    have hrange : ((Array.range (len * 1)).map (z.cells[· % z.cells.size]!)) = ((List.range (len * 1)).map fun i => z.cells[i % z.cells.size]!).toArray := by
      apply Array.ext'; simp
    simp only [Instr.buildSlice, Sem.run_bind, run_underlying hu w, Result.andThen, szT_spec hs, if_neg (show ¬ len * 1 > 2 ^ 24 by omega), Sem.run_pure, if_neg (show ¬ len * 1 = 0 by omega), run_zeroValue hz, hmap, hrange, hf', newRow, newObj]
    rfl)
  refine Plan.eff hg ?_
  rw [hr]
  refine .inl ⟨PIn.keep (hO.app [⟨some w.heap.size, 0, len, f, false⟩] rfl) (hst.allocRo len f el _), ?_⟩
  refine Plan.eff (hg2 _) ?_
  have hr2 : (execOp (ev n (upd e d (.slice (some ⟨w.heap.size, 0, none⟩) len len))) ⟨some d2, .convert t t (.tmp d), ty2, pos2, aft2, gd2⟩).run P (w.alloc (.cells (catL [(len, f)]).toArray el)) = .ok (.value (.slice (some ⟨w.heap.size, 0, none⟩) len len)) (w.alloc (.cells (catL [(len, f)]).toArray el ((catL [(len, f)]).toArray.size, (catL [(len, f)]).toArray.size + 1))) := run_v (by
    rw [hx2]
    exact Lib.run_convert_bytes_const w t el _ len len hu he)
  rw [show updO e (some d) (.slice (some ⟨w.heap.size, 0, none⟩) len len) = upd e d (.slice (some ⟨w.heap.size, 0, none⟩) len len) from rfl, hr2]
  exact .inl ⟨PIn.keep (hO.app [⟨some w.heap.size, 0, len, f, false⟩] rfl) (hst.allocRo len f el _), h _ _ hst.base (hst.allocRo len f el _)⟩

end step2
end Go.LW
