/-
  ENGINE, PART 8 (own work): ranges written from the middle on: copy, a store into the middle.
-/
import Derived.Test.YtjdgbahjpdopbaaDoorLw7
namespace Go.LW
set_option linter.unusedSimpArgs false
set_option linter.unusedVariables false
set_option linter.unusedSectionVars false
open Go Go.RowKit

/-- f, but for cnt places from j on: these are g's. -/
def spl {α : Type} (f : Nat → α) (j cnt : Nat) (g : Nat → α) : Nat → α := fun q => if j ≤ q ∧ q < j + cnt then g (q - j) else f q
theorem spl_in {α : Type} (f : Nat → α) (j cnt : Nat) (g : Nat → α) (q : Nat) (h : j ≤ q ∧ q < j + cnt) : spl f j cnt g q = g (q - j) := by unfold spl; rw [if_pos h]
theorem spl_out {α : Type} (f : Nat → α) (j cnt : Nat) (g : Nat → α) (q : Nat) (h : ¬ (j ≤ q ∧ q < j + cnt)) : spl f j cnt g q = f q := by unfold spl; rw [if_neg h]
theorem spl_map {α β : Type} (φ : α → β) (f : Nat → α) (j cnt : Nat) (g : Nat → α) : (fun q => φ (spl f j cnt g q)) = spl (fun q => φ (f q)) j cnt (fun q => φ (g q)) := by
  funext q; unfold spl; split <;> rfl

section st
variable {B : Nat} {w0 w : World} {L : List Rg}
theorem St.setRange (h : St B w0 L w) {k b off m j : Nat} {f g : Nat → Value} (hL : L[k]? = some ⟨some b, off, m, f, true⟩) :
    ∀ q, j + q ≤ m → St B w0 (L.set k ⟨some b, off, m, spl f j q g, true⟩) (w.setCells b (off + j) ((List.range q).map g))
  | 0, _ => by
    have h1 : spl f j 0 g = f := by funext x; rw [spl_out _ _ _ _ _ (by omega)]
    rw [h1]
    have h2 : L.set k ⟨some b, off, m, f, true⟩ = L := by
      obtain ⟨hk, hLk⟩ := List.getElem?_eq_some_iff.1 hL
      rw [← hLk]; exact List.set_getElem_self hk
    rw [h2]
    exact h
  | q + 1, hq => by
    have ih := St.setRange h (j := j) (g := g) hL q (by omega)
    have hk : k < L.length := (List.getElem?_eq_some_iff.1 hL).1
    have hL' : (L.set k ⟨some b, off, m, spl f j q g, true⟩)[k]? = some ⟨some b, off, m, spl f j q g, true⟩ := by simp [hk]
    have := ih.set (j := j + q) (v := g q) hL' (by omega)
    rw [List.set_set] at this
    have hfun : upd (spl f j q g) (j + q) (g q) = spl f j (q + 1) g := by
      funext x
      simp only [upd_at, spl]
      by_cases h1 : x = j + q
      · subst h1; simp
      · by_cases h2 : j ≤ x ∧ x < j + q
        · rw [if_neg h1, if_pos h2, if_pos (by omega)]
        · rw [if_neg h1, if_neg h2, if_neg (by omega)]
    rw [hfun] at this
    have hcells : (w.setCells b (off + j) ((List.range (q + 1)).map g)) = (w.setCells b (off + j) ((List.range q).map g)).setCell ⟨b, off + (j + q), none⟩ (g q) := by
      rw [List.range_succ, List.map_append, setCells_append]
      simp [World.setCells, Nat.add_assoc]
    rw [hcells]
    exact this

theorem St.thereR (h : St B w0 L w) {k b off m j q : Nat} {f : Nat → Value} (hL : L[k]? = some ⟨some b, off, m, f, true⟩) (hq : j + q ≤ m) : w.there b (off + j) q := fun x hx => by
  have hmem := List.mem_of_getElem? hL
  obtain ⟨b', hp, hc⟩ := h.at_ _ hmem (j + x) (show j + x < m by omega)
  obtain rfl : b = b' := Option.some.inj hp
  obtain ⟨b', hp, hB, hfz⟩ := h.free _ hmem rfl (j + x) (show j + x < m by omega)
  obtain rfl : b = b' := Option.some.inj hp
  rw [Nat.add_assoc]
  exact ⟨by rw [hc]; rfl, hfz⟩
end st

section step
variable {P : Program} {n : Nat} {K : Pend → Env → World → Prop} {l : List It} {O O' : Pend} {e : Env} {w : World} {i ty : Nat} {d : Tmp} {pos : String} {aft : Array Edge} {gd g : Option (Nat × Bool)}
variable {B : Nat} {w0 : World} {L L' : List Rg}

/-- an array or struct of many cells stored into the middle of a range -/
theorem Plan.storeSub (hst : St B w0 L w) {t : TypeId} {x y : Operand} {b o off m m' j : Nat} {f f' : Nat → Value} (k : Nat) (hg : wantedE n e g = true) (hx : ev n e x = .pointer (some ⟨b, o, none⟩)) (hy : ev n e y = AG [(m', f')]) (hL : L[k]? = some ⟨some b, off, m, f, true⟩)
    (ho : o = off + j) (hj : j + m' ≤ m) (hv : ∀ j, j < m' → (f' j).oneCell' = true) (ht : szT P t m' = true) (hO : EffO aft O (L.set k ⟨some b, off, m, spl f j m' f', true⟩) O')
    (h : ∀ w', St B w0 (L.set k ⟨some b, off, m, spl f j m' f', true⟩) w' → Plan P n K l O' e w') : Plan P n K (⟨i, false, ⟨none, .store t x y, ty, pos, aft, gd⟩, g⟩ :: l) O e w := by
  refine Plan.effU hg (w' := w.setCells b (off + j) ((List.range m').map f')) (run_u ?_) (hst.setRange hL m' hj) hO h
  rw [hx, hy, ho]
  have hsz : (P.info? t).map (·.size) = some ((List.range m').map f').toArray.size := by
    unfold szT at ht
    cases hi : P.info? t with
    | none => rw [hi] at ht; cases ht
    | some i => rw [hi] at ht; simp only [beq_iff_eq] at ht; simp [ht]
  have hcat : catL [(m', f')] = (List.range m').map f' := by simp [catL]
  unfold AG
  rw [hcat]
  refine (run_storeAt_mid w b (off + j) t ((List.range m').map f').toArray (by simpa using hst.thereR hL hj) hsz ?_).trans (by simp)
  rw [Array.all_eq_true_iff_forall_mem]
  intro v hv'
  simp only [List.mem_toArray, List.mem_map, List.mem_range] at hv'
  obtain ⟨j, hj, rfl⟩ := hv'
  exact hv j hj

/-- the one cell of a variable of its own -/
theorem Plan.storeC (hst : St B w0 L w) {t : TypeId} {x y : Operand} {b off : Nat} {f : Nat → Value} {v : Value} (k : Nat) (hg : wantedE n e g = true) (hx : ev n e x = .pointer (some ⟨b, off, none⟩)) (hy : ev n e y = v) (hL : L[k]? = some ⟨some b, off, 1, f, true⟩)
    (hv : v.oneCell' = true) (ht : szT P t 1 = true) (hO : O.all (fun p => waitsO ⟨none, .store t x y, ty, pos, aft, gd⟩ p.1) = true)
    (h : ∀ w', St B w0 (L.set k ⟨some b, off, 1, fun _ => v, true⟩) w' → Plan P n K l [] e w') : Plan P n K (⟨i, false, ⟨none, .store t x y, ty, pos, aft, gd⟩, g⟩ :: l) O e w :=
  Plan.store0 hst k hg hx hy hL (by omega) hv ht hO fun w' h' => h w' (h'.congr_set (fun j hj => by
    obtain rfl : j = 0 := by omega
    rfl))
theorem Plan.storeC_int (hst : St B w0 L w) {t : TypeId} {x y : Operand} {b off : Nat} {f : Nat → Value} {kd : IntKind} {a : Int} (k : Nat) (hg : wantedE n e g = true) (hx : ev n e x = .pointer (some ⟨b, off, none⟩)) (hy : ev n e y = .int kd a) (hL : L[k]? = some ⟨some b, off, 1, f, true⟩)
    (ht : szT P t 1 = true) (hO : O.all (fun p => waitsO ⟨none, .store t x y, ty, pos, aft, gd⟩ p.1) = true)
    (h : ∀ w', St B w0 (L.set k ⟨some b, off, 1, fun _ => .int kd a, true⟩) w' → Plan P n K l [] e w') : Plan P n K (⟨i, false, ⟨none, .store t x y, ty, pos, aft, gd⟩, g⟩ :: l) O e w :=
  Plan.storeC hst k hg hx hy hL rfl ht hO h

theorem run_storeCells_range {b o : Nat} {vs : List Value} {w : World} (hth : w.there b o vs.length) (hv : ∀ v ∈ vs, v.oneCell' = true) : (storeCells (⟨b, o, none⟩ : Addr) vs).run P w = .ok () (w.setCells b o vs) := by
  have := run_storeCells_cells (P := P) b o vs 0 w (fun j hj => by simpa using (hth j hj).1) (fun j hj => by simpa using (hth j hj).2) hv
  simpa using this

theorem run_blt2 {bt : Builtin} {x y : Operand} {ρ : Operand → Value} {t t' ty : TypeId} {v : Value} {dst : Option Tmp} {w w' : World}
    (h : ∀ cs, (builtin bt #[t, t'] ty cs #[ρ x, ρ y]).run P w = .ok (.value v) w') : (execOp ρ ⟨dst, .call ⟨.builtin bt, #[x, y], #[t, t']⟩, ty, pos, aft, gd⟩).run P w = .ok (.value v) w' := by
  have e1 : Array.map ρ #[x, y] = #[ρ x, ρ y] := by simp
  simp only [execOp, resolve, Sem.run_bind, Sem.run_pure, Result.andThen, invoke, e1]
  exact h _

/-- What a slice is: nil or empty, or it begins at offset o of block pb. -/
def SlV (a : Option Addr) (pb : Option Nat) (o len : Nat) : Prop := 0 < len → ∃ b, pb = some b ∧ a = some ⟨b, o, none⟩

theorem run_firstCells {a : Option Addr} {pb : Option Nat} {o len cap cnt off m j : Nat} {f : Nat → Value} {rw : Bool} (hst : St B w0 L w) {k : Nat} (hL : L[k]? = some ⟨pb, off, m, f, rw⟩) (hs : SlV a pb o len) (ho : o = off + j) (hc : cnt ≤ len) (hj : j + cnt ≤ m) :
    (Builtin.firstCells 1 cnt (.slice a len cap)).run P w = .ok ((List.range cnt).map fun q => f (j + q)).toArray w := by
  by_cases h0 : cnt = 0
  · subst h0
    cases a with
    | none => rfl
    | some a => rfl
  · obtain ⟨b, hp, ha⟩ := hs (by omega)
    subst ha
    simp only [Builtin.firstCells, Nat.mul_one]
    refine run_loadCells w ⟨b, o, none⟩ cnt (fun q => f (j + q)) (fun q hq => ?_)
    obtain ⟨b', hp', hcell⟩ := hst.mem hL (j + q) (show j + q < m by omega)
    simp only at hp'
    obtain rfl : b = b' := by rw [hp] at hp'; exact Option.some.inj hp'
    rw [Addr.add_mid, ho, Nat.add_assoc, hcell]

theorem run_copy {t t' ty el : TypeId} {ad as : Option Addr} {pd ps : Option Nat} {od os ld cd ls cs cnt offd md jd offs ms js : Nat} {F G : Nat → Value} {rw : Bool} (hst : St B w0 L w) {kd ks : Nat} (hu : P.underlying t = some (.slice el)) (hsz : szT P el 1 = true)
    (hLd : L[kd]? = some ⟨pd, offd, md, F, true⟩) (hLs : L[ks]? = some ⟨ps, offs, ms, G, rw⟩) (hd : SlV ad pd od ld) (hs : SlV as ps os ls) (hod : od = offd + jd) (hos : os = offs + js) (hcnt : cnt = min ls ld) (hjd : jd + cnt ≤ md) (hjs : js + cnt ≤ ms)
    (hG : ∀ j, j < ms → (G j).oneCell' = true) : ∃ w', (Builtin.copy_ #[t, t'] ty #[.slice ad ld cd, .slice as ls cs]).run P w = .ok (VN cnt) w' ∧ St B w0 (L.set kd ⟨pd, offd, md, spl F jd cnt (fun q => G (js + q)), true⟩) w' := by
  have h1 : (Builtin.firstCells 1 cnt (.slice as ls cs)).run P w = .ok ((List.range cnt).map fun q => G (js + q)).toArray w :=
    run_firstCells hst hLs hs hos (by omega) hjs
  have hmin : Nat.min ls ld = cnt := hcnt.symm
  by_cases h0 : cnt = 0
  · have hspl : spl F jd cnt (fun q => G (js + q)) = F := by funext x; rw [spl_out _ _ _ _ _ (by omega)]
    refine ⟨w, ?_, ?_⟩
    · simp only [Builtin.copy_]
      simp only [List.getElem?_toArray, List.getElem?_cons_zero, List.getElem?_cons_succ, Sem.run_bind, run_underlying hu w, Result.andThen, Builtin.lenOf, Sem.run_pure, szT_spec hsz, hmin, h1]
      subst h0
      cases ad <;> rfl
    · rw [hspl]
      have h2 : L.set kd ⟨pd, offd, md, F, true⟩ = L := by
        obtain ⟨hk, hLk⟩ := List.getElem?_eq_some_iff.1 hLd
        rw [← hLk]; exact List.set_getElem_self hk
      rw [h2]; exact hst
  · obtain ⟨b, hp, ha⟩ := hd (by omega)
    subst hp ha
    refine ⟨w.setCells b (offd + jd) ((List.range cnt).map fun q => G (js + q)), ?_, hst.setRange hLd cnt hjd⟩
    have h3 : (storeCells (⟨b, od, none⟩ : Addr) ((List.range cnt).map fun q => G (js + q))).run P w = .ok () (w.setCells b (offd + jd) ((List.range cnt).map fun q => G (js + q))) := by
      rw [hod]
      refine run_storeCells_range (by simpa using hst.thereR hLd hjd) (fun v hv => ?_)
      simp only [List.mem_map, List.mem_range] at hv
      obtain ⟨q, hq, rfl⟩ := hv
      exact hG _ (by omega)
    simp only [Builtin.copy_]
    simp only [List.getElem?_toArray, List.getElem?_cons_zero, List.getElem?_cons_succ, Sem.run_bind, run_underlying hu w, Result.andThen, Builtin.lenOf, Sem.run_pure, szT_spec hsz, hmin, h1, h3]
    rfl

/-- copy between byte slices -/
theorem Plan.copyU (hst : St B w0 L w) {t t' : TypeId} {x y : Operand} {ad as : Option Addr} {pd ps : Option Nat} {od os ld cd ls cs offd md jd offs ms js s : Nat} {kd' : IntKind} {F G : Nat → BitVec s} {rw : Bool} (kd ks cnt : Nat) (hu : slB P t 1 = true) (hg : wantedE n e g = true)
    (hx : ev n e x = .slice ad ld cd) (hy : ev n e y = .slice as ls cs)
    (hLd : L[kd]? = some ⟨pd, offd, md, fun q => VU kd' (F q), true⟩) (hLs : L[ks]? = some ⟨ps, offs, ms, fun q => VU kd' (G q), rw⟩) (hd : SlV ad pd od ld) (hs : SlV as ps os ls) (hod : od = offd + jd) (hos : os = offs + js) (hcnt : cnt = min ls ld) (hjd : jd + cnt ≤ md) (hjs : js + cnt ≤ ms)
    (hO : EffO aft O (L.set kd ⟨pd, offd, md, fun q => VU kd' (spl F jd cnt (fun q => G (js + q)) q), true⟩) O')
    (h : ∀ w', St B w0 (L.set kd ⟨pd, offd, md, fun q => VU kd' (spl F jd cnt (fun q => G (js + q)) q), true⟩) w' → Plan P n K l O' (updO e (some d) (VN cnt)) w') :
    Plan P n K (⟨i, false, ⟨some d, .call ⟨.builtin .copy, #[x, y], #[t, t']⟩, ty, pos, aft, gd⟩, g⟩ :: l) O e w := by
  obtain ⟨el, hu, hsz⟩ := slB_spec hu
  obtain ⟨w', hr, hst'⟩ := run_copy (P := P) (t' := t') (ty := ty) (cd := cd) (cs := cs) hst hu hsz hLd hLs hd hs hod hos hcnt hjd hjs (fun _ _ => rfl)
  rw [← spl_map] at hst'
  refine Plan.effS hg (w' := w') (v := VN cnt) (run_blt2 fun c => ?_) hst' hO h
  rw [hx, hy]
  simp only [builtin, Sem.run_bind, hr]
  rfl
end step

/-- The slice (a, len, cc) reads as the bytes M, out of a known range. -/
def Bs (L : List Rg) (a : Option Addr) (len cc : Nat) (M : Nat → BitVec 8) : Prop :=
  ∃ (iS offs ms js os : Nat) (ps : Option Nat) (G : Nat → BitVec 8) (rw : Bool), L[iS]? = some ⟨ps, offs, ms, fun q => VU .u8 (G q), rw⟩ ∧ SlV a ps os len ∧ os = offs + js ∧ js + len ≤ ms ∧ len ≤ cc ∧ ∀ q, q < len → M q = G (js + q)
theorem Bs.cons {L : List Rg} {a : Option Addr} {len cc : Nat} {M : Nat → BitVec 8} (h : Bs L a len cc M) (r : Rg) : Bs (r :: L) a len cc M := by
  obtain ⟨iS, offs, ms, js, os, ps, G, rw, h1, h2⟩ := h
  exact ⟨iS + 1, offs, ms, js, os, ps, G, rw, h1, h2⟩
theorem Bs.app {L : List Rg} {a : Option Addr} {len cc : Nat} {M : Nat → BitVec 8} (h : Bs L a len cc M) : ∀ C : List Rg, Bs (C ++ L) a len cc M
  | [] => h
  | r :: C => (Bs.app h C).cons r
theorem Bs.nil (L : List Rg) (M : Nat → BitVec 8) (i : Nat) {r : Rg} {G : Nat → BitVec 8} {ps : Option Nat} {offs ms : Nat} {rw : Bool} (h : L[i]? = some r) (hr : r = ⟨ps, offs, ms, fun q => VU .u8 (G q), rw⟩) : Bs L none 0 0 M :=
  ⟨i, offs, ms, 0, offs, ps, G, rw, by rw [h, hr], fun h => absurd h (by omega), rfl, by omega, Nat.le_refl _, fun q hq => absurd hq (by omega)⟩
theorem Bs.congr {L : List Rg} {a : Option Addr} {len cc : Nat} {M M' : Nat → BitVec 8} (h : Bs L a len cc M) (hm : ∀ q, q < len → M' q = M q) : Bs L a len cc M' := by
  obtain ⟨iS, offs, ms, js, os, ps, G, rw, h1, h2, h3, h4, h5, h6⟩ := h
  exact ⟨iS, offs, ms, js, os, ps, G, rw, h1, h2, h3, h4, h5, fun q hq => by rw [hm q hq]; exact h6 q hq⟩
/-- the whole of a range -/
theorem Bs.of {L : List Rg} (i : Nat) {b offs ms : Nat} {G : Nat → BitVec 8} {rw : Bool} (h : L[i]? = some ⟨some b, offs, ms, fun q => VU .u8 (G q), rw⟩) {len cc : Nat} (hl : len ≤ ms) (hc : len ≤ cc) : Bs L (some ⟨b, offs, none⟩) len cc G :=
  ⟨i, offs, ms, 0, offs, some b, G, rw, h, fun _ => ⟨b, rfl, rfl⟩, rfl, by omega, hc, fun q _ => by rw [Nat.zero_add]⟩
/-- from offset j of a range on -/
theorem Bs.ofAt {L : List Rg} (i j : Nat) {b offs ms : Nat} {G : Nat → BitVec 8} {rw : Bool} (h : L[i]? = some ⟨some b, offs, ms, fun q => VU .u8 (G q), rw⟩) {len cc : Nat} (hl : j + len ≤ ms) (hc : len ≤ cc) : Bs L (some ⟨b, offs + j, none⟩) len cc (fun q => G (j + q)) :=
  ⟨i, offs, ms, j, offs + j, some b, G, rw, h, fun _ => ⟨b, rfl, rfl⟩, rfl, hl, hc, fun q _ => rfl⟩
/-- a slice of it -/
theorem Bs.slice {L : List Rg} {a : Option Addr} {len cc : Nat} {M : Nat → BitVec 8} (h : Bs L a len cc M) {lo hi : Nat} (hb : lo ≤ hi ∧ hi ≤ len) : Bs L (if cc = lo then a else a.map (·.add (lo * 1))) (hi - lo) (cc - lo) (fun q => M (lo + q)) := by
  obtain ⟨iS, offs, ms, js, os, ps, G, rw, h1, h2, h3, h4, h5, h6⟩ := h
  refine ⟨iS, offs, ms, js + lo, os + lo, ps, G, rw, h1, fun h0 => ?_, by omega, by omega, by omega, fun q hq => by show M (lo + q) = _; rw [h6 _ (by omega), Nat.add_assoc]⟩
  obtain ⟨b, hp, ha⟩ := h2 (by omega)
  refine ⟨b, hp, ?_⟩
  rw [if_neg (by omega), ha, Nat.mul_one]
  simp [Addr.add_mid]
end Go.LW
