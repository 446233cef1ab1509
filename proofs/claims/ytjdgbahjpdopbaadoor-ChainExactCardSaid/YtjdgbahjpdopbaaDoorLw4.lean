/-
  ENGINE, PART 4 (own work): operations on memory, calls, results, as steps of a plan.
-/
import Derived.Test.YtjdgbahjpdopbaaDoorLw3
namespace Go.LW
set_option linter.unusedSimpArgs false
set_option linter.unusedVariables false
set_option linter.unusedSectionVars false
open Go Go.RowKit

/-- Parts that lie one behind the other. -/
inductive PartsIn (L : List Rg) (b : Nat) : Nat → List (Nat × (Nat → Value)) → Prop
  | nil {o : Nat} : PartsIn L b o []
  | cons {o n : Nat} {f : Nat → Value} {rw : Bool} {ps : List (Nat × (Nat → Value))} (i : Nat) (h : L[i]? = some ⟨some b, o, n, f, rw⟩) (t : PartsIn L b (o + n) ps) : PartsIn L b o ((n, f) :: ps)

theorem catL_length (ps : List (Nat × (Nat → Value))) : (catL ps).length = (ps.map (·.1)).sum := by
  induction ps with
  | nil => rfl
  | cons q ps ih => rw [catL_cons]; simp [ih]

theorem PartsIn.cells {L : List Rg} {b : Nat} {B : Nat} {w0 w : World} (hst : St B w0 L w) {o : Nat} {ps : List (Nat × (Nat → Value))} (h : PartsIn L b o ps) :
    ∀ j v, (catL ps)[j]? = some v → w.cell? ⟨b, o + j, none⟩ = some v := by
  induction h with
  | nil => intro j v hv; simp [catL] at hv
  | @cons o n f rw ps i h t ih =>
    intro j v hv
    rw [catL_cons] at hv
    by_cases hj : j < n
    · rw [List.getElem?_append_left (by simpa using hj)] at hv
      obtain ⟨b', hp, hc⟩ := hst.mem h j hj
      obtain rfl : b = b' := Option.some.inj hp
      simp only [] at hc
      rw [hc]
      simpa [hj] using hv
    · rw [List.getElem?_append_right (by simpa using hj)] at hv
      have := ih (j - n) v (by simpa using hv)
      rw [show o + n + (j - n) = o + j by omega] at this
      exact this

/-- What is held back of the loads that were taken: each is a known range. -/
inductive PIn : Pend → List Rg → Prop
  | nil {L : List Rg} : PIn [] L
  | cons {O : Pend} {L : List Rg} {k : Nat} {r : Rg} (i : Nat) (h : L[i]? = some r) (t : PIn O L) : PIn ((k, r.at) :: O) L
  | tru {O : Pend} {L : List Rg} {k : Nat} (t : PIn O L) : PIn ((k, fun _ => True) :: O) L
  | parts {O : Pend} {L : List Rg} {k b o : Nat} {ps : List (Nat × (Nat → Value))} (h : PartsIn L b o ps) (t : PIn O L) : PIn ((k, fun w => ∀ j v, (catL ps)[j]? = some v → w.cell? ⟨b, o + j, none⟩ = some v) :: O) L
theorem PIn.keep {O : Pend} {L : List Rg} (h : PIn O L) {B : Nat} {w0 w w' : World} (hst : St B w0 L w') : ∀ p ∈ O, p.2 w → p.2 w' := by
  induction h with
  | nil => intro p hp; cases hp
  | cons i h t ih =>
    intro p hp hw
    rcases List.mem_cons.1 hp with rfl | hp
    · exact hst.mem h
    · exact ih hst p hp hw
  | tru t ih =>
    intro p hp hw
    rcases List.mem_cons.1 hp with rfl | hp
    · trivial
    · exact ih hst p hp hw
  | parts h t ih =>
    intro p hp hw
    rcases List.mem_cons.1 hp with rfl | hp
    · exact h.cells hst
    · exact ih hst p hp hw

def scalarT (P : Program) (t : TypeId) : Bool := match P.underlying t with
  | some (.struct _) => false
  | some (.array _ _) => false
  | some _ => true
  | none => false
def aggT (P : Program) (t : TypeId) (n : Nat) : Bool := (match P.underlying t with
  | some (.struct _) => true
  | some (.array _ _) => true
  | _ => false) && (match P.info? t with | some i => i.size == n | none => false)
def szT (P : Program) (t : TypeId) (n : Nat) : Bool := match P.info? t with | some i => i.size == n | none => false
def callB (P : Program) (f : FuncId) : Bool := match P.funcs[f]? with
  | some fn => !(fn.name == "runtime.NumGoroutine") && !fn.body.isNone
  | none => false

theorem run_loadAt_scalar {P : Program} {t : TypeId} {a : Addr} {v : Value} {w : World} (ht : scalarT P t = true) (hc : w.cell? a = some v) : (Instr.loadAt t (.pointer (some a))).run P w = .ok v w := by
  have hagg : (isAgg t).run P w = .ok false w := by
    unfold scalarT at ht
    unfold isAgg
    cases hu : P.underlying t with
    | none => rw [hu] at ht; cases ht
    | some d =>
      rw [Sem.run_bind, run_underlying hu w]
      rw [hu] at ht
      cases d <;> first | rfl | cases ht
  simp [Instr.loadAt, Instr.sureAddr, loadVar, Sem.run_bind, hagg, hc]

theorem aggT_spec {P : Program} {t : TypeId} {n : Nat} (h : aggT P t n = true) : ∃ d, P.underlying t = some d ∧ d.isRow = true ∧ (P.info? t).map (·.size) = some n := by
  unfold aggT at h
  simp only [Bool.and_eq_true] at h
  obtain ⟨h1, h2⟩ := h
  cases hu : P.underlying t with
  | none => rw [hu] at h1; cases h1
  | some d =>
    rw [hu] at h1
    refine ⟨d, rfl, (by cases d <;> first | rfl | cases h1), ?_⟩
    cases hi : P.info? t with
    | none => rw [hi] at h2; cases h2
    | some i =>
      rw [hi] at h2
      simp only [beq_iff_eq] at h2
      simp [h2]
theorem szT_spec {P : Program} {t : TypeId} {n : Nat} (h : szT P t n = true) (w : World) : (sizeOf t).run P w = .ok n w := by
  unfold szT at h
  cases hi : P.info? t with
  | none => rw [hi] at h; cases h
  | some i =>
    rw [hi] at h
    simp only [beq_iff_eq] at h
    simp [sizeOf, typeInfo, hi, h]

theorem run_loadAt_range {P : Program} {t : TypeId} {b o m : Nat} {f : Nat → Value} {w : World} (ht : aggT P t m = true) (hc : ∀ j, j < m → w.cell? ⟨b, o + j, none⟩ = some (f j)) :
    (Instr.loadAt t (.pointer (some ⟨b, o, none⟩))).run P w = .ok (.agg ((List.range m).map f).toArray) w := by
  obtain ⟨d, hu, hd, hi⟩ := aggT_spec ht
  refine run_loadAt_mid w b o t ((List.range m).map f) d (fun j v hv => ?_) hu hd (by simpa using hi)
  have hj : j < m := by have := (List.getElem?_eq_some_iff.1 hv).1; simpa using this
  rw [hc j hj]
  simpa [hj] using hv

theorem St.like {B : Nat} {w0 w : World} {L L' : List Rg} (h : St B w0 L w) (hl : L'.length = L.length)
    (hr : ∀ q (h1 : q < L.length) (h2 : q < L'.length), L'[q].p = L[q].p ∧ L'[q].off = L[q].off ∧ L'[q].n = L[q].n ∧ L'[q].rw = L[q].rw ∧ ∀ j, j < L[q].n → L'[q].f j = L[q].f j) : St B w0 L' w := by
  refine ⟨h.below, h.base, fun r hm => ?_, fun r hm => ?_, ?_⟩
  · obtain ⟨q, hq, rfl⟩ := List.getElem_of_mem hm
    obtain ⟨h1, h2, h3, h4, h5⟩ := hr q (by omega) hq
    intro j hj
    obtain ⟨b, hp, hc⟩ := h.at_ L[q] (List.getElem_mem (by omega)) j (by omega)
    exact ⟨b, by rw [h1]; exact hp, by rw [h2, h5 j (by omega)]; exact hc⟩
  · obtain ⟨q, hq, rfl⟩ := List.getElem_of_mem hm
    obtain ⟨h1, h2, h3, h4, h5⟩ := hr q (by omega) hq
    intro hw j hj
    obtain ⟨b, hp, hB, hc⟩ := h.free L[q] (List.getElem_mem (by omega)) (by rw [← h4]; exact hw) j (by omega)
    exact ⟨b, by rw [h1]; exact hp, hB, by rw [h2]; exact hc⟩
  · rw [List.pairwise_iff_getElem]
    intro x y hx hy hxy
    have h0 := List.pairwise_iff_getElem.1 h.apart x y (by omega) (by omega) hxy
    obtain ⟨h1, h2, h3, h4, _⟩ := hr x (by omega) hx
    obtain ⟨k1, k2, k3, k4, _⟩ := hr y (by omega) hy
    unfold Rg.apart at *
    rw [h1, h2, h3, h4, k1, k2, k3, k4]
    exact h0
theorem St.congr_set {B : Nat} {w0 w : World} {L : List Rg} {k off m : Nat} {p : Option Nat} {f f' : Nat → Value} {rw : Bool} (h : St B w0 (L.set k ⟨p, off, m, f, rw⟩) w) (hf : ∀ j, j < m → f j = f' j) : St B w0 (L.set k ⟨p, off, m, f', rw⟩) w := by
  refine h.like (by simp) fun q h1 h2 => ?_
  rw [List.getElem_set, List.getElem_set]
  by_cases hk : k = q
  · rw [if_pos hk, if_pos hk]; exact ⟨rfl, rfl, rfl, rfl, fun j hj => (hf j hj).symm⟩
  · rw [if_neg hk, if_neg hk]; exact ⟨rfl, rfl, rfl, rfl, fun j _ => rfl⟩

section step
variable {P : Program} {n : Nat} {K : Pend → Env → World → Prop} {l : List It} {O : Pend} {e : Env} {w : World} {i ty : Nat} {d : Tmp} {pos : String} {aft : Array Edge} {gd g : Option (Nat × Bool)}
variable {B : Nat} {w0 : World} {L : List Rg}

theorem Plan.held {op : Op} {v : Value} (S : World → Prop) (hg : wantedE n e g = true) (hS : S w) (hv : ∀ w, S w → (execOp (ev n e) ⟨some d, op, ty, pos, aft, gd⟩).run P w = .ok (.value v) w)
    (h : Plan P n K l ((i, S) :: O) (upd e d v) w) : Plan P n K (⟨i, true, ⟨some d, op, ty, pos, aft, gd⟩, g⟩ :: l) O e w := by
  unfold Plan
  rw [if_pos hg]
  exact ⟨v, .inr ⟨S, hS, hv, h⟩⟩

/-! loads -/
theorem Plan.load1 (hst : St B w0 L w) {t : TypeId} {x : Operand} {b off j m : Nat} {f : Nat → Value} {rw : Bool} (k : Nat) (hg : wantedE n e g = true) (hx : ev n e x = .pointer (some ⟨b, off + j, none⟩)) (hL : L[k]? = some ⟨some b, off, m, f, rw⟩)
    (hj : j < m) (ht : scalarT P t = true) (h : Plan P n K l ((i, (Rg.mk (some b) off m f rw).at) :: O) (upd e d (f j)) w) :
    Plan P n K (⟨i, true, ⟨some d, .load t x, ty, pos, aft, gd⟩, g⟩ :: l) O e w :=
  Plan.held _ hg (hst.mem hL) (fun w hw => run_v (by
    rw [hx]
    obtain ⟨b', hp, hc⟩ := hw j hj
    obtain rfl : b = b' := Option.some.inj hp
    exact run_loadAt_scalar ht hc)) h
theorem Plan.load0 (hst : St B w0 L w) {t : TypeId} {x : Operand} {b off m : Nat} {f : Nat → Value} {rw : Bool} (k : Nat) (hg : wantedE n e g = true) (hx : ev n e x = .pointer (some ⟨b, off, none⟩)) (hL : L[k]? = some ⟨some b, off, m, f, rw⟩)
    (hj : 0 < m) (ht : scalarT P t = true) (h : Plan P n K l ((i, (Rg.mk (some b) off m f rw).at) :: O) (upd e d (f 0)) w) :
    Plan P n K (⟨i, true, ⟨some d, .load t x, ty, pos, aft, gd⟩, g⟩ :: l) O e w :=
  Plan.load1 hst k hg (j := 0) (by rw [hx]; rfl) hL hj ht h
/-- a whole array or struct: its parts -/
theorem Plan.loadA (hst : St B w0 L w) {t : TypeId} {x : Operand} {b o : Nat} {ps : List (Nat × (Nat → Value))} (hg : wantedE n e g = true) (hx : ev n e x = .pointer (some ⟨b, o, none⟩)) (hL : PartsIn L b o ps)
    (ht : aggT P t (ps.map (·.1)).sum = true) (h : Plan P n K l ((i, fun w => ∀ j v, (catL ps)[j]? = some v → w.cell? ⟨b, o + j, none⟩ = some v) :: O) (upd e d (AG ps)) w) :
    Plan P n K (⟨i, true, ⟨some d, .load t x, ty, pos, aft, gd⟩, g⟩ :: l) O e w :=
  Plan.held _ hg (hL.cells hst) (fun w hw => run_v (by
    rw [hx]
    obtain ⟨dd, hu, hd, hi⟩ := aggT_spec ht
    exact run_loadAt_mid w b o t (catL ps) dd hw hu hd (by rw [catL_length]; exact hi))) h
/-- an array or struct out of the middle of a range -/
theorem Plan.loadSub (hst : St B w0 L w) {t : TypeId} {x : Operand} {b o off m m' : Nat} {f : Nat → Value} {rw : Bool} (k j : Nat) (hg : wantedE n e g = true) (hx : ev n e x = .pointer (some ⟨b, o, none⟩)) (hL : L[k]? = some ⟨some b, off, m, f, rw⟩)
    (ho : o = off + j) (hj : j + m' ≤ m) (ht : aggT P t m' = true) (h : Plan P n K l ((i, (Rg.mk (some b) off m f rw).at) :: O) (upd e d (AG [(m', fun q => f (j + q))])) w) :
    Plan P n K (⟨i, true, ⟨some d, .load t x, ty, pos, aft, gd⟩, g⟩ :: l) O e w :=
  Plan.held _ hg (hst.mem hL) (fun w hw => run_v (by
    rw [hx, ho]
    refine (run_loadAt_range (f := fun q => f (j + q)) ht fun q hq => ?_).trans ?_
    · obtain ⟨b', hp, hc⟩ := hw (j + q) (show j + q < m by omega)
      obtain rfl : b = b' := Option.some.inj hp
      rw [Nat.add_assoc]; exact hc
    · simp [AG, catL])) h

/-! what changes memory: (hO: all loads that were taken and not yet surely carried out are waited for, or kept) -/
theorem Plan.eff {dst : Option Tmp} {op : Op} (hg : wantedE n e g = true) (h : uponE P (fun v w' => ((∀ p ∈ O, p.2 w → p.2 w') ∧ Plan P n K l O (updO e dst v) w') ∨ (O.all (fun p => waitsO ⟨dst, op, ty, pos, aft, gd⟩ p.1) = true ∧ Plan P n K l [] (updO e dst v) w'))
    ((execOp (ev n e) ⟨dst, op, ty, pos, aft, gd⟩).run P w)) : Plan P n K (⟨i, false, ⟨dst, op, ty, pos, aft, gd⟩, g⟩ :: l) O e w := by
  unfold Plan
  rw [if_pos hg]
  exact h

theorem run_storeAt_scalar {t : TypeId} {b o : Nat} {u v : Value} {w : World} (ht : szT P t 1 = true) (hv : v.oneCell' = true) (hc : w.cell? ⟨b, o, none⟩ = some u) (hf : w.frozen? ⟨b, o, none⟩ = false) :
    (Instr.storeAt t (.pointer (some ⟨b, o, none⟩)) v).run P w = .ok () (w.setCell ⟨b, o, none⟩ v) := by
  have hcs : v.cells = #[v] := by cases v <;> first | rfl | cases hv
  have h1 : (store (⟨b, o, none⟩ : Addr) v).run P w = .ok () (w.setCell ⟨b, o, none⟩ v) := by
    rw [run_store P w _ v _ hv, hc]; simp [hf]
  simp only [Instr.storeAt, Instr.sureAddr, Sem.run_bind, Sem.run_pure, Result.andThen_ok, storeVar, szT_spec ht, hcs]
  simp [storeCells, Addr.add, h1]

theorem Plan.store1 (hst : St B w0 L w) {t : TypeId} {x y : Operand} {b off j m : Nat} {f : Nat → Value} {v : Value} (k : Nat) (hg : wantedE n e g = true) (hx : ev n e x = .pointer (some ⟨b, off + j, none⟩)) (hy : ev n e y = v) (hL : L[k]? = some ⟨some b, off, m, f, true⟩)
    (hj : j < m) (hv : v.oneCell' = true) (ht : szT P t 1 = true) (hO : O.all (fun p => waitsO ⟨none, .store t x y, ty, pos, aft, gd⟩ p.1) = true)
    (h : ∀ w', St B w0 (L.set k ⟨some b, off, m, upd f j v, true⟩) w' → Plan P n K l [] e w') : Plan P n K (⟨i, false, ⟨none, .store t x y, ty, pos, aft, gd⟩, g⟩ :: l) O e w := by
  refine Plan.eff hg ?_
  have hmem := List.mem_of_getElem? hL
  obtain ⟨b', hp, hc⟩ := hst.at_ _ hmem j hj
  obtain rfl : b = b' := Option.some.inj hp
  obtain ⟨b', hp, hB, hfz⟩ := hst.free _ hmem rfl j hj
  obtain rfl : b = b' := Option.some.inj hp
  have hr : (execOp (ev n e) ⟨none, .store t x y, ty, pos, aft, gd⟩).run P w = .ok .skip (w.setCell ⟨b, off + j, none⟩ v) := run_u (by
    rw [hx, hy]; exact run_storeAt_scalar ht hv hc hfz)
  rw [hr]
  exact .inr ⟨hO, h _ (hst.set hL hj)⟩
theorem Plan.store0 (hst : St B w0 L w) {t : TypeId} {x y : Operand} {b off m : Nat} {f : Nat → Value} {v : Value} (k : Nat) (hg : wantedE n e g = true) (hx : ev n e x = .pointer (some ⟨b, off, none⟩)) (hy : ev n e y = v) (hL : L[k]? = some ⟨some b, off, m, f, true⟩)
    (hj : 0 < m) (hv : v.oneCell' = true) (ht : szT P t 1 = true) (hO : O.all (fun p => waitsO ⟨none, .store t x y, ty, pos, aft, gd⟩ p.1) = true)
    (h : ∀ w', St B w0 (L.set k ⟨some b, off, m, upd f 0 v, true⟩) w' → Plan P n K l [] e w') : Plan P n K (⟨i, false, ⟨none, .store t x y, ty, pos, aft, gd⟩, g⟩ :: l) O e w :=
  Plan.store1 hst k hg (j := 0) (by rw [hx]; rfl) hy hL hj hv ht hO h
/-- a number into a range of numbers of one kind -/
theorem Plan.storeU (hst : St B w0 L w) {t : TypeId} {x y : Operand} {b off j m s : Nat} {kd : IntKind} {F : Nat → BitVec s} {X : BitVec s} (k : Nat) (hg : wantedE n e g = true) (hx : ev n e x = .pointer (some ⟨b, off + j, none⟩)) (hy : ev n e y = VU kd X)
    (hL : L[k]? = some ⟨some b, off, m, fun q => VU kd (F q), true⟩)
    (hj : j < m) (ht : szT P t 1 = true) (hO : O.all (fun p => waitsO ⟨none, .store t x y, ty, pos, aft, gd⟩ p.1) = true)
    (h : ∀ w', St B w0 (L.set k ⟨some b, off, m, fun q => VU kd (upd F j X q), true⟩) w' → Plan P n K l [] e w') : Plan P n K (⟨i, false, ⟨none, .store t x y, ty, pos, aft, gd⟩, g⟩ :: l) O e w :=
  Plan.store1 hst k hg hx hy hL hj rfl ht hO fun w' h' => h w' (by
    have : (fun q => VU kd (upd F j X q)) = upd (fun q => VU kd (F q)) j (VU kd X) := by
      funext q; simp only [upd_at]; split <;> rfl
    rw [this]; exact h')
/-- a whole variable of many cells -/
theorem St.setAll (h : St B w0 L w) {k b off m : Nat} {f f' : Nat → Value} (hL : L[k]? = some ⟨some b, off, m, f, true⟩) :
    ∀ q, q ≤ m → St B w0 (L.set k ⟨some b, off, m, fun j => if j < q then f' j else f j, true⟩) (w.setCells b off ((List.range q).map f'))
  | 0, _ => by
    have : (fun j => if j < 0 then f' j else f j) = f := by funext j; simp
    rw [this]
    have h2 : L.set k ⟨some b, off, m, f, true⟩ = L := by
      obtain ⟨hk, hLk⟩ := List.getElem?_eq_some_iff.1 hL
      rw [← hLk]; exact List.set_getElem_self hk
    rw [h2]
    exact h
  | q + 1, hq => by
    have ih := St.setAll h (f' := f') hL q (by omega)
    have hk : k < L.length := (List.getElem?_eq_some_iff.1 hL).1
    have hL' : (L.set k ⟨some b, off, m, fun j => if j < q then f' j else f j, true⟩)[k]? = some ⟨some b, off, m, fun j => if j < q then f' j else f j, true⟩ := by simp [hk]
    have := ih.set (j := q) (v := f' q) hL' (by omega)
    rw [List.set_set] at this
    have hfun : upd (fun j => if j < q then f' j else f j) q (f' q) = fun j => if j < q + 1 then f' j else f j := by
      funext j
      simp only [upd_at]
      by_cases h1 : j = q
      · subst h1; simp
      · by_cases h2 : j < q
        · simp [h1, h2, show j < q + 1 by omega]
        · simp [h1, h2, show ¬ j < q + 1 by omega]
    rw [hfun] at this
    have hcells : (w.setCells b off ((List.range (q + 1)).map f')) = (w.setCells b off ((List.range q).map f')).setCell ⟨b, off + q, none⟩ (f' q) := by
      rw [List.range_succ, List.map_append]
      have : ∀ (vs : List Value) (o : Nat) (w : World) (v : Value), w.setCells b o (vs ++ [v]) = (w.setCells b o vs).setCell ⟨b, o + vs.length, none⟩ v := by
        intro vs
        induction vs with
        | nil => intro o w v; simp [World.setCells]
        | cons u vs ih => intro o w v; simp only [List.cons_append, World.setCells]; rw [ih]; simp only [List.length_cons]; rw [show o + 1 + vs.length = o + (vs.length + 1) by omega]
      simpa using this ((List.range q).map f') off w (f' q)
    rw [hcells]
    exact this
theorem Plan.storeA (hst : St B w0 L w) {t : TypeId} {x y : Operand} {b off m : Nat} {f f' : Nat → Value} (k : Nat) (hg : wantedE n e g = true) (hx : ev n e x = .pointer (some ⟨b, off, none⟩)) (hy : ev n e y = AG [(m, f')]) (hL : L[k]? = some ⟨some b, off, m, f, true⟩)
    (hv : ∀ j, j < m → (f' j).oneCell' = true) (ht : szT P t m = true) (hO : O.all (fun p => waitsO ⟨none, .store t x y, ty, pos, aft, gd⟩ p.1) = true)
    (h : ∀ w', St B w0 (L.set k ⟨some b, off, m, f', true⟩) w' → Plan P n K l [] e w') : Plan P n K (⟨i, false, ⟨none, .store t x y, ty, pos, aft, gd⟩, g⟩ :: l) O e w := by
  refine Plan.eff hg ?_
  have hmem := List.mem_of_getElem? hL
  have hsz : (P.info? t).map (·.size) = some m := by
    unfold szT at ht
    cases hi : P.info? t with
    | none => rw [hi] at ht; cases ht
    | some i => rw [hi] at ht; simp only [beq_iff_eq] at ht; simp [ht]
  have hthere : w.there b off m := fun j hj => by
    obtain ⟨b', hp, hc⟩ := hst.at_ _ hmem j hj
    obtain rfl : b = b' := Option.some.inj hp
    obtain ⟨b', hp, hB, hfz⟩ := hst.free _ hmem rfl j hj
    obtain rfl : b = b' := Option.some.inj hp
    exact ⟨by rw [hc]; rfl, hfz⟩
  have hcat : catL [(m, f')] = (List.range m).map f' := by simp [catL]
  have hr : (execOp (ev n e) ⟨none, .store t x y, ty, pos, aft, gd⟩).run P w = .ok .skip (w.setCells b off ((List.range m).map f')) := run_u (by
    rw [hx, hy]
    unfold AG
    rw [hcat]
    refine (run_storeAt_mid w b off t ((List.range m).map f').toArray ?_ ?_ ?_).trans (by simp)
    · simpa using hthere
    · simpa using hsz
    · rw [Array.all_eq_true_iff_forall_mem]
      intro v hv'
      simp only [List.mem_toArray, List.mem_map, List.mem_range] at hv'
      obtain ⟨j, hj, rfl⟩ := hv'
      exact hv j hj)
  rw [hr]
  refine .inr ⟨hO, h _ ?_⟩
  exact (hst.setAll (f' := f') hL m (Nat.le_refl _)).congr_set (fun j hj => by simp [hj])
end step
end Go.LW
