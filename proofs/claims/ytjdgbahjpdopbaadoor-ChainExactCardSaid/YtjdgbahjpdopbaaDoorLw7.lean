/-
  ENGINE, PART 7 (own work): effects in one form; parts stored; slices; copies; slices built.
-/
import Derived.Test.YtjdgbahjpdopbaaDoorLw6
namespace Go.LW
set_option linter.unusedSimpArgs false
set_option linter.unusedVariables false
set_option linter.unusedSectionVars false
open Go Go.RowKit

def waitsA (aft : Array Edge) (i : Nat) : Bool := aft.toList.any fun e => Region.binds .any e && Nat.beq e.on i
/-- What of the loads that were taken is still held back behind an effect. -/
inductive EffO (aft : Array Edge) (O : Pend) (L' : List Rg) : Pend → Prop
  | keep (h : PIn O L') : EffO aft O L' O
  | wait (h : O.all (fun p => waitsA aft p.1) = true) : EffO aft O L' []

/-- ranges picked out of the known ones, in any order -/
def pick (is : List Nat) (C : List Rg) : List Rg := is.filterMap fun i => C[i]?
theorem St.pickT {B : Nat} {w0 w : World} {C L : List Rg} (h : St B w0 (C ++ L) w) (is : List Nat) (hn : is.Nodup) : St B w0 (pick is C ++ L) w := by
  have hC : ∀ r ∈ pick is C, ∃ i, i ∈ is ∧ C[i]? = some r := fun r hr => by
    obtain ⟨i, hi, hr⟩ := List.mem_filterMap.1 hr
    exact ⟨i, hi, hr⟩
  have hmem : ∀ r ∈ pick is C ++ L, r ∈ C ++ L := fun r hr => by
    rcases List.mem_append.1 hr with hr | hr
    · obtain ⟨i, _, hi⟩ := hC r hr
      exact List.mem_append_left _ (List.mem_of_getElem? hi)
    · exact List.mem_append_right _ hr
  have hap := List.pairwise_append.1 h.apart
  refine ⟨h.below, h.base, fun r hr => h.at_ r (hmem r hr), fun r hr => h.free r (hmem r hr), List.pairwise_append.2 ⟨?_, hap.2.1, fun r hr s hs => ?_⟩⟩
  · have key : ∀ is : List Nat, is.Nodup → (pick is C).Pairwise Rg.apart := by
      intro is
      induction is with
      | nil => intro _; exact .nil
      | cons i is ih =>
        intro hn
        obtain ⟨h1, h2⟩ := List.nodup_cons.1 hn
        unfold pick
        rw [List.filterMap_cons]
        split
        · exact ih h2
        · rename_i r hr
          refine List.pairwise_cons.2 ⟨fun s hs => ?_, ih h2⟩
          obtain ⟨j, hj, hs⟩ := List.mem_filterMap.1 hs
          have hij : i ≠ j := fun e => h1 (e ▸ hj)
          obtain ⟨hi', hri⟩ := List.getElem?_eq_some_iff.1 hr
          obtain ⟨hj', hsj⟩ := List.getElem?_eq_some_iff.1 hs
          rw [← hri, ← hsj]
          rcases Nat.lt_or_ge i j with hlt | hge
          · exact List.pairwise_iff_getElem.1 hap.1 i j hi' hj' hlt
          · exact (List.pairwise_iff_getElem.1 hap.1 j i hj' hi' (by omega)).symm
    exact key is hn
  · obtain ⟨i, _, hi⟩ := hC r hr
    exact hap.2.2 r (List.mem_of_getElem? hi) s hs

theorem setCells_append (b : Nat) : ∀ (us vs : List Value) (o : Nat) (w : World), w.setCells b o (us ++ vs) = (w.setCells b o us).setCells b (o + us.length) vs
  | [], vs, o, w => by simp [World.setCells]
  | u :: us, vs, o, w => by
    simp only [List.cons_append, World.setCells, setCells_append b us vs, List.length_cons]
    rw [show o + 1 + us.length = o + (us.length + 1) by omega]

/-- The new list of ranges behind a store of parts. -/
inductive PartsSet (b : Nat) : Nat → List (Nat × (Nat → Value)) → List Rg → List Rg → Prop
  | nil {o : Nat} {L : List Rg} : PartsSet b o [] L L
  | cons {o m : Nat} {f f' : Nat → Value} {ps : List (Nat × (Nat → Value))} {L L' : List Rg} (i : Nat) (h : L[i]? = some ⟨some b, o, m, f, true⟩) (t : PartsSet b (o + m) ps (L.set i ⟨some b, o, m, f', true⟩) L') : PartsSet b o ((m, f') :: ps) L L'

theorem PartsSet.st {B : Nat} {w0 : World} {b : Nat} {o : Nat} {ps : List (Nat × (Nat → Value))} {L L' : List Rg} (h : PartsSet b o ps L L') : ∀ {w : World}, St B w0 L w → St B w0 L' (w.setCells b o (catL ps)) ∧ w.there b o (catL ps).length := by
  induction h with
  | nil => intro w hst; exact ⟨hst, fun j hj => absurd hj (by simp [catL])⟩
  | @cons o m f f' ps L L' i h t ih =>
    intro w hst
    have h1 : St B w0 (L.set i ⟨some b, o, m, f', true⟩) (w.setCells b o ((List.range m).map f')) := by
      have := hst.setAll (f' := f') h m (Nat.le_refl _)
      exact this.congr_set (fun j hj => by simp [hj])
    obtain ⟨h2, h3⟩ := ih h1
    have hmem := List.mem_of_getElem? h
    refine ⟨?_, fun j hj => ?_⟩
    · rw [catL_cons, setCells_append]
      simpa using h2
    · by_cases hjm : j < m
      · obtain ⟨b', hp, hc⟩ := hst.at_ _ hmem j hjm
        obtain rfl : b = b' := Option.some.inj hp
        obtain ⟨b', hp, hB, hfz⟩ := hst.free _ hmem rfl j hjm
        obtain rfl : b = b' := Option.some.inj hp
        exact ⟨by rw [hc]; rfl, hfz⟩
      · rw [catL_cons] at hj
        have h4 := h3 (j - m) (by simp at hj; omega)
        rw [show o + m + (j - m) = o + j by omega] at h4
        refine ⟨?_, by rw [← World.frozen?_setCells b ((List.range m).map f') o w]; exact h4.2⟩
        have h5 := World.cell?_setCells_out b ((List.range m).map f') o w ⟨b, o + j, none⟩ (fun _ _ => .inr (by simp; omega))
        rw [← h5]; exact h4.1

section step
variable {P : Program} {n : Nat} {K : Pend → Env → World → Prop} {l : List It} {O O' : Pend} {e : Env} {w : World} {i ty : Nat} {d : Tmp} {pos : String} {aft : Array Edge} {gd g : Option (Nat × Bool)}
variable {B : Nat} {w0 : World} {L L' : List Rg}

theorem Plan.effS {dst : Option Tmp} {op : Op} {v : Value} {w' : World} (hg : wantedE n e g = true) (hr : (execOp (ev n e) ⟨dst, op, ty, pos, aft, gd⟩).run P w = .ok (.value v) w') (hst : St B w0 L' w') (hO : EffO aft O L' O')
    (h : ∀ w', St B w0 L' w' → Plan P n K l O' (updO e dst v) w') : Plan P n K (⟨i, false, ⟨dst, op, ty, pos, aft, gd⟩, g⟩ :: l) O e w := by
  refine Plan.eff hg ?_
  rw [hr]
  cases hO with
  | keep hp => exact .inl ⟨hp.keep hst, h _ hst⟩
  | wait hw => exact .inr ⟨hw, h _ hst⟩
theorem Plan.effU {dst : Option Tmp} {op : Op} {w' : World} (hg : wantedE n e g = true) (hr : (execOp (ev n e) ⟨dst, op, ty, pos, aft, gd⟩).run P w = .ok .skip w') (hst : St B w0 L' w') (hO : EffO aft O L' O')
    (h : ∀ w', St B w0 L' w' → Plan P n K l O' (updO e dst undef) w') : Plan P n K (⟨i, false, ⟨dst, op, ty, pos, aft, gd⟩, g⟩ :: l) O e w := by
  refine Plan.eff hg ?_
  rw [hr]
  cases hO with
  | keep hp => exact .inl ⟨hp.keep hst, h _ hst⟩
  | wait hw => exact .inr ⟨hw, h _ hst⟩

def oneP : List (Nat × (Nat → Value)) → Prop
  | [] => True
  | q :: r => (∀ j, j < q.1 → (q.2 j).oneCell' = true) ∧ oneP r
theorem oneP_all : ∀ {ps : List (Nat × (Nat → Value))}, oneP ps → ∀ q ∈ ps, ∀ j, j < q.1 → (q.2 j).oneCell' = true
  | [], _, q, hq => by cases hq
  | _ :: _, h, q, hq => by
    rcases List.mem_cons.1 hq with rfl | hq
    · exact h.1
    · exact oneP_all h.2 q hq

/-- a struct or array stored, part by part -/
theorem Plan.storeP (hst : St B w0 L w) {t : TypeId} {x y : Operand} {b o : Nat} {ps : List (Nat × (Nat → Value))} (hg : wantedE n e g = true) (hx : ev n e x = .pointer (some ⟨b, o, none⟩)) (hy : ev n e y = AG ps) (hL : PartsSet b o ps L L')
    (hone : oneP ps) (ht : szT P t (ps.map (·.1)).sum = true) (hO : EffO aft O L' O')
    (h : ∀ w', St B w0 L' w' → Plan P n K l O' e w') : Plan P n K (⟨i, false, ⟨none, .store t x y, ty, pos, aft, gd⟩, g⟩ :: l) O e w := by
  obtain ⟨h1, h2⟩ := hL.st hst
  refine Plan.effU hg (w' := w.setCells b o (catL ps)) (run_u ?_) h1 hO h
  rw [hx, hy]
  have hsz : (P.info? t).map (·.size) = some (catL ps).toArray.size := by
    unfold szT at ht
    cases hi : P.info? t with
    | none => rw [hi] at ht; cases ht
    | some i => rw [hi] at ht; simp only [beq_iff_eq] at ht; simp [ht, catL_length]
  refine (run_storeAt_mid w b o t (catL ps).toArray (by simpa using h2) hsz ?_).trans (by simp)
  rw [Array.all_eq_true_iff_forall_mem]
  intro v hv'
  have hv' : v ∈ catL ps := by simpa using hv'
  unfold catL at hv'
  obtain ⟨q, hq, hv'⟩ := List.mem_flatMap.1 hv'
  obtain ⟨j, hj, rfl⟩ := List.mem_map.1 hv'
  exact oneP_all hone q hq j (List.mem_range.1 hj)

/-! slicing -/
theorem run_sliceBound {x : Nat} {y : Nat} {c : BoundsCode} {k : IntKind} (h : x ≤ y) (w : World) : (Instr.sliceBound (.int k (x : Int)) y c).run P w = .ok x w := by
  unfold Instr.sliceBound
  have hc : (0 : Int) ≤ (x : Int) ∧ (x : Int) ≤ (y : Int) := by omega
  simp only [Sem.run_bind, asIntOf, Sem.run_pure, Result.andThen, if_pos hc, Int.toNat_natCast]

theorem Plan.slArr {t : TypeId} {x : Operand} {b o len sz lo hi : Nat} {low high : Option Operand} (ha : arrB P t len sz = true) (hg : wantedE n e g = true) (hx : ev n e x = .pointer (some ⟨b, o, none⟩))
    (hlo : match low with | some y => ∃ k, ev n e y = .int k (lo : Int) | none => lo = 0) (hhi : match high with | some y => ∃ k, ev n e y = .int k (hi : Int) | none => hi = len) (hb : lo ≤ hi ∧ hi ≤ len ∧ lo < len)
    (h : Plan P n K l O (upd e d (.slice (some ⟨b, o + lo * sz, none⟩) (hi - lo) (len - lo))) w) : Plan P n K (⟨i, true, ⟨some d, .slice t x low high none, ty, pos, aft, gd⟩, g⟩ :: l) O e w :=
  Plan.val hg (fun w => run_v (by
    obtain ⟨el, hu, hs⟩ := arrB_spec ha
    rw [hx]
    have hbd : (Instr.sliceBounds false len len (low.map (ev n e)) (high.map (ev n e)) none).run P w = .ok (lo, hi, len) w := by
      unfold Instr.sliceBounds
      cases low with
      | none =>
        cases high with
        | none =>
          simp only at hlo hhi
          subst hlo hhi
          simp
        | some y =>
          obtain ⟨k, hy⟩ := hhi
          simp only at hlo
          subst hlo
          simp [hy, run_sliceBound hb.2.1]
      | some z =>
        obtain ⟨k', hz⟩ := hlo
        cases high with
        | none =>
          simp only at hhi
          subst hhi
          simp [hz, run_sliceBound hb.1]
        | some y =>
          obtain ⟨k, hy⟩ := hhi
          simp [hy, hz, run_sliceBound hb.2.1, run_sliceBound hb.1]
    simp only [Instr.sliceAt, Sem.run_bind, run_underlying hu w, Result.andThen, Instr.sureAddr, Sem.run_pure, Option.map_none, hbd, szT_spec hs, add_addr, if_neg (show ¬ len = lo by omega)])) h

/-- a slice of a slice; where it ends at the capacity's end the address stays -/
theorem Plan.slSl {t : TypeId} {x : Operand} {a : Option Addr} {len cap sz lo hi : Nat} {low high : Option Operand} (ha : slB P t sz = true) (hg : wantedE n e g = true) (hx : ev n e x = .slice a len cap)
    (hlo : match low with | some y => ∃ k, ev n e y = .int k (lo : Int) | none => lo = 0) (hhi : match high with | some y => ∃ k, ev n e y = .int k (hi : Int) | none => hi = len) (hb : lo ≤ hi ∧ hi ≤ cap)
    (h : Plan P n K l O (upd e d (.slice (if cap = lo then a else a.map (·.add (lo * sz))) (hi - lo) (cap - lo))) w) : Plan P n K (⟨i, true, ⟨some d, .slice t x low high none, ty, pos, aft, gd⟩, g⟩ :: l) O e w :=
  Plan.val hg (fun w => run_v (by
    obtain ⟨el, hu, hs⟩ := slB_spec ha
    rw [hx]
    have hbd : (Instr.sliceBounds true len cap (low.map (ev n e)) (high.map (ev n e)) none).run P w = .ok (lo, hi, cap) w := by
      unfold Instr.sliceBounds
      cases low with
      | none =>
        cases high with
        | none =>
          simp only at hlo hhi
          subst hlo hhi
          simp
        | some y =>
          obtain ⟨k, hy⟩ := hhi
          simp only at hlo
          subst hlo
          simp [hy, run_sliceBound hb.2]
      | some z =>
        obtain ⟨k', hz⟩ := hlo
        cases high with
        | none =>
          simp only at hhi
          subst hhi
          simp [hz, run_sliceBound hb.1]
        | some y =>
          obtain ⟨k, hy⟩ := hhi
          simp [hy, hz, run_sliceBound hb.2, run_sliceBound hb.1]
    simp only [Instr.sliceAt, Instr.slice, Sem.run_bind, run_underlying hu w, Result.andThen, Sem.run_pure, Option.map_none, hbd, szT_spec hs])) h

/-! a slice built -/
theorem Plan.buildSlice (hst : St B w0 L w) {t : TypeId} {len sz : Nat} {parts : Array (Nat × Operand)} {ps : List (Nat × (Nat → Value))} {vs : List (Nat × Value)} {z : Value} {el : TypeId} (hu : P.underlying t = some (.slice el)) (hs : szT P el sz = true) (hz : (P.info? el).bind (·.zero) = some z)
    (hl : 0 < len * sz) (hl2 : len * sz ≤ 16777216) (hg : wantedE n e g = true)
    (hv : parts.toList.map (fun p => (p.1, ev n e p.2)) = vs) (hf : fillL (fun i => some (i * sz, sz)) ((List.range (len * sz)).map fun i => z.cells[i % z.cells.size]!) vs = some (catL ps)) (hO : EffO aft O L O')
    (h : ∀ b w', B ≤ b → St B w0 (rngs b 0 ps ++ L) w' → Plan P n K l O' (upd e d (.slice (some ⟨b, 0, none⟩) len len)) w') :
    Plan P n K (⟨i, false, ⟨some d, .buildSlice t len parts, ty, pos, aft, gd⟩, g⟩ :: l) O e w := by
  have h' := hst.alloc ps el
  have hr : (execOp (ev n e) ⟨some d, .buildSlice t len parts, ty, pos, aft, gd⟩).run P w = .ok (.value (.slice (some ⟨w.heap.size, 0, none⟩) len len)) (w.alloc (.cells (catL ps).toArray el)) := run_v (by
    have hmap : (parts.map fun (i, x) => (i, ev n e x)).toList = vs := by rw [← hv]; simp
    have hf' := fillL_spec _ _ _ hf
    have hrange : ((Array.range (len * sz)).map (z.cells[· % z.cells.size]!)) = ((List.range (len * sz)).map fun i => z.cells[i % z.cells.size]!).toArray := by
      apply Array.ext'; simp
    simp only [Instr.buildSlice, Sem.run_bind, run_underlying hu w, Result.andThen, szT_spec hs, if_neg (show ¬ len * sz > 2 ^ 24 by omega), Sem.run_pure, if_neg (show ¬ len * sz = 0 by omega), run_zeroValue hz, hmap, hrange, hf', newRow, newObj]
    rfl)
  refine Plan.eff hg ?_
  rw [hr]
  cases hO with
  | keep hp => exact .inl ⟨(hp.app _ rfl).keep h', h _ _ hst.base h'⟩
  | wait hw => exact .inr ⟨hw, h _ _ hst.base h'⟩
end step
end Go.LW
