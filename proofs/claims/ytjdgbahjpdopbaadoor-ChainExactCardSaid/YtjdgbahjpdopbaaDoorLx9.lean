/-
  ENGINE X, PART 9 (own work): structs compared.
-/
import Derived.Test.YtjdgbahjpdopbaaDoorLx8
namespace Go.LW
set_option linter.unusedSimpArgs false
set_option linter.unusedVariables false
set_option linter.unusedSectionVars false
open Go Go.RowKit

def EqV (P : Program) (d : Nat) (t : TypeId) (v v' : Value) (b : Bool) : Prop := ∀ w, (Op.equalIn d t v v').run P w = .ok b w
def intT (P : Program) (t : TypeId) (k : IntKind) : Bool := match P.underlying t with | some (.int q) => q == k | _ => false
theorem intT_spec {P : Program} {t : TypeId} {k : IntKind} (h : intT P t k = true) : P.underlying t = some (.int k) := by
  unfold intT at h
  cases hu : P.underlying t with
  | none => rw [hu] at h; cases h
  | some q =>
    rw [hu] at h
    cases q <;> try (cases h; done)
    simp only [beq_iff_eq] at h
    subst h; rfl
section
variable {P : Program} {d : Nat} {t : TypeId}
theorem EqV.int {k : IntKind} {a b : Int} (h : intT P t k = true) : EqV P (d + 1) t (.int k a) (.int k b) (decide (a = b)) := fun w => by
  rw [run_equalIn_int w d t k k a b (intT_spec h)]
  congr 1
theorem EqV.nat {k : IntKind} {a b : Nat} (h : intT P t k = true) : EqV P (d + 1) t (.int k (a : Int)) (.int k (b : Int)) (decide (a = b)) := fun w => by
  rw [run_equalIn_int w d t k k a b (intT_spec h)]
  congr 1
  rw [Bool.eq_iff_iff, beq_iff_eq, decide_eq_true_iff]; omega
theorem EqV.u {k : IntKind} {s : Nat} {a b : BitVec s} (h : intT P t k = true) : EqV P (d + 1) t (VU k a) (VU k b) (decide (a = b)) := fun w => by
  rw [run_equalIn_int w d t k k _ _ (intT_spec h)]
  congr 1
  rw [Bool.eq_iff_iff, beq_iff_eq, decide_eq_true_iff, BitVec.toNat_eq]; omega
theorem EqV.bool {a b : Bool} (h : P.underlying t = some .bool) : EqV P (d + 1) t (.bool a) (.bool b) (a == b) := fun w => run_equalIn_bool' w d t a b h
theorem EqV.str {X Y : List Byte} (h : P.underlying t = some .string) : EqV P (d + 1) t (.string (strL X)) (.string (strL Y)) (decide (X = Y)) := fun w => by
  rw [run_equalIn_string w d t _ _ h, toList_inj]
  congr 1
  exact decide_eq_decide.2 strL_inj
theorem EqV.arr {s n : Nat} {kd : IntKind} {F G : Nat → BitVec s} (h : arrIB P t n kd = true) : EqV P (d + 1 + 1) t (AG [(n, fun q => VU kd (F q))]) (AG [(n, fun q => VU kd (G q))]) (eqB n F G) := fun w => by
  obtain ⟨el, i, hu, hi, hs, hk, _⟩ := arrIB_spec h
  unfold AG
  rw [run_equalIn_array w (d + 1) _ _ hu hi]
  have hc : P.cellsOf el = 1 := by simp [Program.cellsOf, hi, hs]
  rw [hc]
  refine run_eqItems d hk _ _ F G w _ fun j hj => ?_
  have hj := List.mem_range.1 hj
  simp [catL_one, hj]
/-- fields: type and offset -/
inductive EqF (P : Program) (d : Nat) (ps qs : PS) : List (TypeId × Nat) → Bool → Prop
  | nil : EqF P d ps qs [] true
  | agg {ft off : Nat} {fs : List (TypeId × Nat)} {b r : Bool} (A Y C A' Y' C' : PS) (hp : ps = A ++ Y ++ C) (hq : qs = A' ++ Y' ++ C') (ho : (A.map (·.1)).sum = off) (ho' : (A'.map (·.1)).sum = off)
      (ha : aggT P ft (Y.map (·.1)).sum = true) (ha' : aggT P ft (Y'.map (·.1)).sum = true) (h : EqV P d ft (AG Y) (AG Y') b) (t : EqF P d ps qs fs r) : EqF P d ps qs ((ft, off) :: fs) (b && r)
  | one {ft off : Nat} {fs : List (TypeId × Nat)} {b r : Bool} {v v' : Value} (A C A' C' : PS) (F F' : Nat → Value) (hp : ps = A ++ [(1, F)] ++ C) (hq : qs = A' ++ [(1, F')] ++ C') (ho : (A.map (·.1)).sum = off) (ho' : (A'.map (·.1)).sum = off)
      (ha : scalarT P ft = true) (hv : F 0 = v) (hv' : F' 0 = v') (h : EqV P d ft v v' b) (t : EqF P d ps qs fs r) : EqF P d ps qs ((ft, off) :: fs) (b && r)
theorem run_partS {ft off : Nat} {A C : PS} {F : Nat → Value} {v : Value} (ha : scalarT P ft = true) (ho : (A.map (·.1)).sum = off) (hv : F 0 = v) (w : World) : (part ft (catL (A ++ [(1, F)] ++ C)).toArray off).run P w = .ok v w := by
  unfold part
  rw [Sem.run_bind, run_isAggN ha w]
  have : (catL (A ++ [(1, F)] ++ C)).toArray[off]? = some v := by
    rw [catL_app, catL_app, ← ho, ← catL_length]
    simp [catL_one, hv]
  simp only [Result.andThen, Bool.false_eq_true, if_false, this, Sem.run_pure]
theorem run_partA' {ft off : Nat} {A Y C : PS} (ha : aggT P ft (Y.map (·.1)).sum = true) (ho : (A.map (·.1)).sum = off) (w : World) : (part ft (catL (A ++ Y ++ C)).toArray off).run P w = .ok (AG Y) w := by
  rw [catL_app, catL_app, ← ho, ← catL_length]
  exact run_partA ha rfl (catL_length _) w
theorem EqF.run {ps qs : PS} : ∀ {l : List (TypeId × Nat)} {b : Bool}, EqF P d ps qs l b → ∀ (fs : List Field), fs.map (fun f => (f.type, f.offset)) = l → (∀ f ∈ fs, f.name ≠ "_") → ∀ w, (Op.eqFields d (catL ps).toArray (catL qs).toArray fs).run P w = .ok b w := by
  intro l b h
  induction h with
  | nil =>
    intro fs hl _ w
    obtain rfl : fs = [] := List.map_eq_nil_iff.1 hl
    simp [Op.eqFields]
  | @agg ft off l b r A Y C A' Y' C' hp hq ho ho' ha ha' h t ih =>
    intro fs hl hn w
    cases fs with
    | nil => cases hl
    | cons f fs =>
      simp only [List.map_cons, List.cons.injEq, Prod.mk.injEq] at hl
      obtain ⟨⟨rfl, rfl⟩, hl⟩ := hl
      simp only [Op.eqFields, if_pos (hn f List.mem_cons_self), Sem.run_bind]
      have e1 := run_partA' (P := P) (C := C) ha ho w
      have e2 := run_partA' (P := P) (C := C') ha' ho' w
      rw [← hp] at e1
      rw [← hq] at e2
      simp only [e1, e2, Result.andThen_ok, h w]
      cases b with
      | true =>
        simp only [Bool.not_true, Bool.false_eq_true, if_false, Bool.true_and]
        exact ih fs hl (fun g hg => hn g (List.mem_cons_of_mem _ hg)) w
      | false => simp
  | @one ft off l b r v v' A C A' C' F F' hp hq ho ho' ha hv hv' h t ih =>
    intro fs hl hn w
    cases fs with
    | nil => cases hl
    | cons f fs =>
      simp only [List.map_cons, List.cons.injEq, Prod.mk.injEq] at hl
      obtain ⟨⟨rfl, rfl⟩, hl⟩ := hl
      simp only [Op.eqFields, if_pos (hn f List.mem_cons_self), Sem.run_bind]
      have e1 := run_partS (P := P) (C := C) ha ho hv w
      have e2 := run_partS (P := P) (C := C') ha ho' hv' w
      rw [← hp] at e1
      rw [← hq] at e2
      simp only [e1, e2, Result.andThen_ok, h w]
      cases b with
      | true =>
        simp only [Bool.not_true, Bool.false_eq_true, if_false, Bool.true_and]
        exact ih fs hl (fun g hg => hn g (List.mem_cons_of_mem _ hg)) w
      | false => simp
def fieldsB (P : Program) (t : TypeId) (l : List (TypeId × Nat)) : Bool := match P.underlying t with
  | some (.struct fs) => fs.toList.map (fun f => (f.type, f.offset)) == l && fs.toList.all (fun f => f.name != "_") && !P.stoodInHeld t
  | _ => false
theorem EqV.struct {l : List (TypeId × Nat)} {ps qs : PS} {b : Bool} (hB : fieldsB P t l = true) (h : EqF P d ps qs l b) : EqV P (d + 1) t (AG ps) (AG qs) b := fun w => by
  unfold fieldsB at hB
  cases hu : P.underlying t with
  | none => rw [hu] at hB; cases hB
  | some u =>
    rw [hu] at hB
    cases u <;> try (cases hB; done)
    rename_i fs
    simp only [Bool.and_eq_true, beq_iff_eq, Bool.not_eq_true', List.all_eq_true, bne_iff_ne, ne_eq] at hB
    obtain ⟨⟨h1, h2⟩, h3⟩ := hB
    have hf : P.fieldsOf t = fs := by unfold Program.fieldsOf; rw [hu]
    unfold AG
    rw [run_equalIn_struct w d t _ _ (by rw [hu, hf]) h3, hf]
    exact h.run fs.toList h1 (fun f hf => h2 f hf) w
end
section step
variable {P : Program} {n : Nat} {K : Pend → Env → World → Prop} {l : List It} {O O' : Pend} {e : Env} {w : World} {i ty : Nat} {d : Tmp} {pos : String} {aft : Array Edge} {gd g : Option (Nat × Bool)}
theorem Plan.eqStrV' {t yt : TypeId} {x y : Operand} {ps qs : PS} {b c : Bool} (hgd : P.eqGuardType P.depth t = false) (hg : wantedE n e g = true) (hx : ev n e x = AG ps) (hy : ev n e y = AG qs) (hq : EqV P 10000 t (AG ps) (AG qs) b) (hc : b = c)
    (h : Plan P n K l O (upd e d (.bool c)) w) : Plan P n K (⟨i, true, ⟨some d, .binOp .eql t x y yt, ty, pos, aft, gd⟩, g⟩ :: l) O e w :=
  Plan.val hg (fun w => run_v (by
    subst hc
    rw [hx, hy, Sem.run_bind]
    have h1 : (eqGuard .eql t x y (AG ps) (AG qs)).run P w = .ok () w := run_eqGuard hgd w
    rw [h1]
    simp only [Result.andThen_ok]
    have h2 := hq w
    unfold AG at h2 ⊢
    rw [run_eql_struct, h2]; rfl)) h
theorem Plan.neStrV' {t yt : TypeId} {x y : Operand} {ps qs : PS} {b c : Bool} (hgd : P.eqGuardType P.depth t = false) (hg : wantedE n e g = true) (hx : ev n e x = AG ps) (hy : ev n e y = AG qs) (hq : EqV P 10000 t (AG ps) (AG qs) b) (hc : b = c)
    (h : Plan P n K l O (upd e d (.bool (!c))) w) : Plan P n K (⟨i, true, ⟨some d, .binOp .neq t x y yt, ty, pos, aft, gd⟩, g⟩ :: l) O e w :=
  Plan.val hg (fun w => run_v (by
    subst hc
    rw [hx, hy, Sem.run_bind]
    have h1 : (eqGuard .neq t x y (AG ps) (AG qs)).run P w = .ok () w := run_eqGuard hgd w
    rw [h1]
    simp only [Result.andThen_ok]
    have h2 := hq w
    unfold AG at h2 ⊢
    rw [run_neq_struct, h2]; rfl)) h

theorem toNat_lt {x : Int} {m : Nat} (h0 : 0 ≤ x) (h : x < (m : Int)) : x.toNat < m := by omega
/-! a slice of no elements -/
theorem Plan.buildE {B : Nat} {w0 : World} {L : List Rg} (hst : St B w0 L w) {t el : TypeId} {sz : Nat} (F : Nat → Value) (hu : P.underlying t = some (.slice el)) (hs : szT P el sz = true) (hg : wantedE n e g = true) (hO : EffO aft O L O')
    (h : ∀ b w', B ≤ b → St B w0 (⟨some b, 0, 0, F, true⟩ :: L) w' → Plan P n K l O' (upd e d (.slice (some ⟨b, 0, none⟩) 0 0)) w') :
    Plan P n K (⟨i, false, ⟨some d, .buildSlice t 0 #[], ty, pos, aft, gd⟩, g⟩ :: l) O e w := by
  have h' := hst.alloc [] el
  have h2 : St B w0 (⟨some w.heap.size, 0, 0, F, true⟩ :: L) (w.alloc (.cells (catL []).toArray el)) :=
    St.cons (show St B w0 L _ from h') (fun j hj => absurd hj (Nat.not_lt_zero j)) (fun _ j hj => absurd hj (Nat.not_lt_zero j)) (fun s _ _ => .inr (.inr (.inr (.inl rfl))))
  have hr : (execOp (ev n e) ⟨some d, .buildSlice t 0 #[], ty, pos, aft, gd⟩).run P w = .ok (.value (.slice (some ⟨w.heap.size, 0, none⟩) 0 0)) (w.alloc (.cells (catL []).toArray el)) := run_v (by
    simp [Instr.buildSlice, Sem.run_bind, run_underlying hu w, Result.andThen, szT_spec hs, newRow, newObj, Instr.fill, catL]
    rw [show ∀ v : Value, Array.map (fun _ : Nat => v) (Array.range 0) = #[] from fun _ => by simp]
    rfl)
  refine Plan.eff hg ?_
  rw [hr]
  cases hO with
  | keep hp => exact .inl ⟨(hp.app _ rfl).keep h', h _ _ hst.base h2⟩
  | wait hw => exact .inr ⟨hw, h _ _ hst.base h2⟩
theorem Plan.buildEL {B : Nat} {w0 : World} {L : List Rg} (hst : St B w0 L w) {t el : TypeId} {sz : Nat} (F : Nat → Value) (hu : P.underlying t = some (.slice el)) (hs : szT P el sz = true) (hg : wantedE n e g = true) (hO : EffO aft O L O')
    (h : ∀ b w', B ≤ b → St B w0 (⟨some b, 0, 0 * sz, F, true⟩ :: L) w' → Plan P n K l O' (upd e d (.slice (some ⟨b, 0, none⟩) 0 0)) w') :
    Plan P n K (⟨i, false, ⟨some d, .buildSlice t 0 #[], ty, pos, aft, gd⟩, g⟩ :: l) O e w :=
  Plan.buildE hst F hu hs hg hO fun b w' hb h' => h b w' hb (by rw [Nat.zero_mul]; exact h')
theorem Ow.empty {b : Nat} : Ow (some ⟨b, 0, none⟩) (some b) ([] : List Byte).length 0 (fun _ => 0#8) [] := ⟨.inr ⟨b, rfl, rfl⟩, Nat.le_refl _, rfl, fun q hq => absurd hq (Nat.not_lt_zero q)⟩
theorem LO.empty {D : EL} {L : List Rg} {b : Nat} {F : Nat → Value} : LO D L (some ⟨b, 0, none⟩) (some b) ([] : List D.α).length 0 F [] := ⟨.inr ⟨b, rfl, rfl⟩, Nat.le_refl _, rfl, fun j x hx => by simp at hx, fun q hq => absurd hq (by simp)⟩
end step

/-! parts' cells are single -/
def Ones : List (Nat × (Nat → Value)) → Prop
  | [] => True
  | p :: ps => (∀ q, (p.2 q).oneCell' = true) ∧ Ones ps
theorem Ones.mem : ∀ {ps : List (Nat × (Nat → Value))}, Ones ps → ∀ v ∈ catL ps, v.oneCell' = true
  | [], _, v, hv => by simp [catL] at hv
  | p :: ps, h, v, hv => by
    rw [catL_cons] at hv
    rcases List.mem_append.1 hv with hv | hv
    · obtain ⟨q, _, rfl⟩ := List.mem_map.1 hv
      exact h.1 q
    · exact Ones.mem h.2 v hv

section step
variable {P : Program} {n : Nat} {K : Pend → Env → World → Prop} {l : List It} {O O' : Pend} {e : Env} {w : World} {i ty : Nat} {d : Tmp} {pos : String} {aft : Array Edge} {gd g : Option (Nat × Bool)}
variable {B : Nat} {w0 : World} {L L' : List Rg} {D : EL}
theorem LO.lvf {a : Option Addr} {pb : Option Nat} {len cap : Nat} {F : Nat → Value} {X : List D.α} (hf : D.flat) (h : LO D [] a pb len cap F X) (k : Nat) (hL : L[k]? = some ⟨pb, 0, cap * D.sz, F, true⟩) : LV D L k a len cap X := h.lv (fun b x hs => hf _ _ b x hs) k hL
theorem Plan.idxLVS (_ : St B w0 L w) {t : TypeId} {x y : Operand} {k : IntKind} {ix len cc j sz : Nat} {a : Option Addr} {X : List D.α} (hX : LV D L ix a len cc X) (ha : slB P t sz = true) (hg : wantedE n e g = true) (hx : ev n e x = .slice a len cc) (hy : ev n e y = .int k (j : Int)) (hj : j < len)
    (h : Plan P n K l O (upd e d (.pointer (a.map fun z => ⟨z.block, z.off + j * sz, none⟩))) w) : Plan P n K (⟨i, true, ⟨some d, .indexAddr t x y, ty, pos, aft, gd⟩, g⟩ :: l) O e w := Plan.idxLV hX ha hg hx hy hj h
/-- an element's own bytes, as a view -/
theorem Plan.slLO (hst : St B w0 L w) {t : TypeId} {x : Operand} {len cap j sz : Nat} {a : Option Addr} {pb : Option Nat} {F : Nat → Value} {X : List D.α} (dflt : D.α) (k : Nat) (hO : LO D [] a pb len cap F X) (hsz : D.sz = sz) (f : D.α → Nat → Byte) (hE : ∀ b y, D.E b y = [(sz, fun q => VU .u8 (f y q))]) (hck : ∀ v, D.ck v → ∃ c : Byte, v = VU .u8 c) (ha : arrB P t sz 1 = true) (hg : wantedE n e g = true) (hx : ev n e x = .pointer (a.map fun z => ⟨z.block, z.off + j * sz, none⟩)) (hj : j < len)
    (hL : L[k]? = some ⟨pb, 0, cap * sz, F, true⟩) (h0 : 0 < sz)
    (h : ∀ (G : Nat → Byte), LO D [] a pb len cap (fun q => VU .u8 (G q)) X → St B w0 (L.set k ⟨pb, 0, cap * sz, fun q => VU .u8 (G q), true⟩) w → Bx (L.set k ⟨pb, 0, cap * sz, fun q => VU .u8 (G q), true⟩) k (a.map fun z => ⟨z.block, z.off + j * sz, none⟩) sz sz (dl sz (f (X.getD j dflt))) →
      Plan P n K l O (upd e d (.slice (a.map fun z => ⟨z.block, z.off + j * sz, none⟩) sz sz)) w) :
    Plan P n K (⟨i, true, ⟨some d, .slice t x none none none, ty, pos, aft, gd⟩, g⟩ :: l) O e w := by
  subst hsz
  have hOc := hO.hc
  have hk : k < L.length := (List.getElem?_eq_some_iff.1 hL).1
  obtain ⟨b, rfl, rfl⟩ := hO.ho.pos (by omega)
  have hG : ∃ G : Nat → Byte, ∀ q, q < cap * D.sz → F q = VU .u8 (G q) := by
    exact ⟨fun q => Classical.epsilon fun c : Byte => F q = VU .u8 c, fun q hq => Classical.epsilon_spec (hck _ (hO.hK q hq))⟩
  obtain ⟨G, hG⟩ := hG
  have hsub : ∀ j k, j < len → k < D.sz → j * D.sz + k < cap * D.sz := fun j k hj hk => by
    have : (j + 1) * D.sz ≤ cap * D.sz := Nat.mul_le_mul_right _ (by omega)
    rw [Nat.succ_mul] at this
    omega
  have hO' : LO D [] (some ⟨b, 0, none⟩) (some b) len cap (fun q => VU .u8 (G q)) X := ⟨hO.ho, hO.hc, hO.hl, fun j x hx => by
    have hj : j < len := by rw [← hO.hl]; exact (List.getElem?_eq_some_iff.1 hx).1
    exact (hO.hF j x hx).congr fun q hq => hG _ (hsub j q hj hq), fun q hq => by rw [← hG q hq]; exact hO.hK q hq⟩
  have hst' : St B w0 (L.set k ⟨some b, 0, cap * D.sz, fun q => VU .u8 (G q), true⟩) w := by
    have h2 : L.set k ⟨some b, 0, cap * D.sz, F, true⟩ = L := by
      obtain ⟨hk, hLk⟩ := List.getElem?_eq_some_iff.1 hL
      rw [← hLk]; exact List.set_getElem_self hk
    have h3 : St B w0 (L.set k ⟨some b, 0, cap * D.sz, F, true⟩) w := by rw [h2]; exact hst
    exact h3.congr_set hG
  refine Plan.slArr (b := b) (o := 0 + j * D.sz) (lo := 0) (hi := D.sz) ha hg (by rw [hx]; rfl) rfl rfl ⟨Nat.zero_le _, Nat.le_refl _, h0⟩ ?_
  have := h G hO' hst' ⟨dl_length _ _, Nat.le_refl _, fun _ => ⟨0, cap * D.sz, j * D.sz, 0 + j * D.sz, some b, G, true, by rw [List.getElem?_set_self hk], fun _ => ⟨b, rfl, rfl⟩, rfl, by have := hsub j (D.sz - 1) hj (by omega); omega, fun q hq => ?_⟩⟩
  · simpa using this
  · rw [lit_dl _ hq]
    obtain ⟨bb, _, hc⟩ := hO'.hF j _ (getD_of (by rw [hO.hl]; exact hj) dflt)
    have h5 := hc q (VU .u8 (f (X.getD j dflt) q)) (by rw [hE, catL_one]; simp [hq])
    have h6 : (VU .u8 (G (j * D.sz + q)) : Value) = VU .u8 (f (X.getD j dflt) q) := h5
    have h7 : ((G (j * D.sz + q)).toNat : Int) = ((f (X.getD j dflt) q).toNat : Int) := by injection h6
    exact (BitVec.eq_of_toNat_eq (by omega)).symm
/-- a part of a view -/
theorem Plan.slLV {t : TypeId} {x : Operand} {ix len cap lo hi sz : Nat} {a : Option Addr} {X : List D.α} {low high : Option Operand} (hX : LV D L ix a len cap X) (hsz : D.sz = sz) (ha : slB P t sz = true) (hg : wantedE n e g = true) (hx : ev n e x = .slice a len cap)
    (hlo : match low with | some y => ∃ k, ev n e y = .int k (lo : Int) | none => lo = 0) (hhi : match high with | some y => ∃ k, ev n e y = .int k (hi : Int) | none => hi = len) (hb : lo ≤ hi ∧ hi ≤ len)
    (h : ∀ a' c', LV D L ix a' (sgl X lo hi).length c' (sgl X lo hi) → Plan P n K l O (upd e d (.slice a' (sgl X lo hi).length c')) w) : Plan P n K (⟨i, true, ⟨some d, .slice t x low high none, ty, pos, aft, gd⟩, g⟩ :: l) O e w := by
  subst hsz
  have h1 := hX.sgl hb
  have h2 : (sgl X lo hi).length = hi - lo := h1.hl
  refine Plan.slSl ha hg hx hlo hhi (by have := hX.le; omega) ?_
  rw [← h2] at h1 ⊢
  exact h _ _ h1
theorem LV.two {L L' : List Rg} (hf : D.flat) {i i1 i2 j1 j2 : Nat} {a : Option Addr} {len cc : Nat} {X : List D.α} {r1 r2 : Rg} (h : LV D L i a len cc X) (hi : i = i1 ∨ i = i2) (h1 : L[i1]? = some r1) (h2 : L[i2]? = some r2) (k1 : L'[j1]? = some r1) (k2 : L'[j2]? = some r2) : LV D L' (if i = i1 then j1 else j2) a len cc X := by
  by_cases h0 : i = i1
  · rw [if_pos h0]; exact h.move hf (by rw [h0]; exact h1) k1
  · rw [if_neg h0]; exact h.move hf (by rw [hi.resolve_left h0]; exact h2) k2
/-- append; the slice as it was is a view from then on -/
theorem Plan.appendLK (hst : St B w0 L w) {t t' el' : TypeId} {x y : Operand} {len cap m cy iy sz by' : Nat} {a ay : Option Addr} {pb : Option Nat} {F : Nat → Value} {X Y : List D.α} {z : Value} (bb : D.β) (zx : D.α) (k : Nat) (hfl : D.flat) (hO : LO D [] a pb len cap F X) (hsz : D.sz = sz) (he : elD P t = some (sz, by', some z)) (hzc : z.cells.toList = catL (D.E bb zx)) (ht' : P.underlying t' = some (.slice el')) (hg : wantedE n e g = true)
    (hx : ev n e x = .slice a len cap) (hy : ev n e y = .slice ay m cy) (hL : L[k]? = some ⟨pb, 0, cap * sz, F, true⟩) (hY : LV D L iy ay m cy Y) (hb : (len + m) * by' ≤ 140737488355328) (h63 : len + m < 9223372036854775808)
    (hw : ∀ q r, EffO aft O (q :: L.set k r) O')
    (h : ∀ a' pb' cap' (F' : Nat → Value) r iz w', LO D [] a' pb' (X ++ Y).length cap' F' (X ++ Y) → (iz = 0 ∨ iz = k + 1) → LV D (⟨pb', 0, cap' * sz, F', true⟩ :: L.set k r) iz a len cap X → St B w0 (⟨pb', 0, cap' * sz, F', true⟩ :: L.set k r) w' → Plan P n K l O' (updO e (some d) (.slice a' (X ++ Y).length cap')) w') :
    Plan P n K (⟨i, false, ⟨some d, .call ⟨.builtin .append, #[x, y], #[t, t']⟩, ty, pos, aft, gd⟩, g⟩ :: l) O e w := by
  subst hsz
  have hzs : z.cells.size = D.sz := by rw [← Array.length_toList, hzc, D.hlen]
  obtain ⟨gg, hsrc, hgg⟩ := Src.ofLV hst ht' hY
  obtain ⟨w', a', pb', cap', ip, r, hr, ho', hcap, hst', hcase⟩ := run_appendK (P := P) (ty := ty) (zf := fun q => z.cells[q]!) hst (elB_of he) hzs (fun q hq => rfl) hL hO.ho hsrc hO.hc hb h63
  have hk : k < L.length := (List.getElem?_eq_some_iff.1 hL).1
  have hl : (X ++ Y).length = len + m := by rw [List.length_append, hO.hl, hY.hl]
  have hin0 : ∀ {c j k : Nat}, j < c → k < D.sz → j * D.sz + k < c * D.sz := fun {c j k} hj hk => by
    have : (j + 1) * D.sz ≤ c * D.sz := Nat.mul_le_mul_right _ hj
    rw [Nat.succ_mul] at this
    omega
  have hLO : LO D [] a' pb' (len + m) cap' (fun q => if ip = true ∨ q < (len + m) * D.sz then spl F (len * D.sz) (m * D.sz) gg q else z.cells[q % D.sz]!) (X ++ Y) := by
    refine ⟨ho', hcap, hl, fun j x hx => ?_, app_ck hO hzc hY.hl hgg (fun hip => ?_)⟩
    rotate_left
    · rcases hcase with ⟨_, _, _, h5⟩ | ⟨h5, _⟩
      · omega
      · rw [h5] at hip; cases hip
    have hj : j < len + m := by rw [← hl]; exact (List.getElem?_eq_some_iff.1 hx).1
    by_cases h1 : j < X.length
    · rw [List.getElem?_append_left h1] at hx
      refine (hO.hF j x hx).congr fun k hk => ?_
      rw [if_pos (.inr (hin0 hj hk)), spl_out]
      rintro ⟨h2, _⟩
      have := hin0 (c := len) (j := j) (k := k) (by rw [hO.hl] at h1; exact h1) hk
      omega
    · rw [List.getElem?_append_right (by omega)] at hx
      obtain ⟨b, s1, s2⟩ := hgg _ x hx
      refine EL.cells.congr ⟨b, hfl _ _ b x s1, s2⟩ fun k hk => ?_
      have e1 : j * D.sz = len * D.sz + (j - X.length) * D.sz := by rw [← Nat.add_mul, hO.hl]; congr 1; rw [hO.hl] at h1; omega
      have e2 : (j - X.length) * D.sz + k < m * D.sz := by
        have := hin0 hj hk
        rw [Nat.add_mul] at this
        omega
      rw [if_pos (.inr (hin0 hj hk)), spl_in _ _ _ _ _ ⟨by omega, by omega⟩]
      congr 1; omega
  have hview : ∃ iz, (iz = 0 ∨ iz = k + 1) ∧ LV D (⟨pb', 0, cap' * D.sz, fun q => if ip = true ∨ q < (len + m) * D.sz then spl F (len * D.sz) (m * D.sz) gg q else z.cells[q % D.sz]!, true⟩ :: L.set k r) iz a len cap X := by
    rcases hcase with ⟨h1, h2, h3, h4⟩ | ⟨_, h1⟩
    · subst h1 h2 h3 h4
      refine ⟨0, .inl rfl, LO.lv (L0 := []) ⟨hO.ho, hO.hc, hO.hl, fun j x hx => ?_, hLO.hK⟩ (fun b x h => hfl _ _ b x h) 0 rfl⟩
      refine (hO.hF j x hx).congr fun q hq => ?_
      have hj : j < len := by rw [← hO.hl]; exact (List.getElem?_eq_some_iff.1 hx).1
      rw [if_pos (.inl rfl), spl_out]
      rintro ⟨h2, _⟩
      have := hin0 (k := q) hj hq
      omega
    · subst h1
      refine ⟨k + 1, .inr rfl, LO.lv hO (fun b x h => hfl _ _ b x h) (k + 1) ?_⟩
      rw [List.getElem?_cons_succ, List.getElem?_set_self hk]
  obtain ⟨iz, hiz, hV⟩ := hview
  refine Plan.effS hg (w' := w') (v := .slice a' (X ++ Y).length cap') (run_blt2 fun c => ?_) hst' (hw _ _) fun w' hw' => h a' pb' cap' _ r iz w' ?_ hiz hV hw'
  · rw [hx, hy]
    simp only [builtin, Sem.run_bind, hr, hl]
    rfl
  · rw [hl]; exact hLO
/-- a sum and a sign that go round -/
def w64 (z : Int) : Int := (z + 9223372036854775808) % 18446744073709551616 - 9223372036854775808
theorem wrap_w64 (z : Int) : IntKind.i64.wrap z = w64 z := by rw [IntKind.wrap_i64]; unfold w64; omega
theorem Plan.addW {t yt : TypeId} {x y : Operand} {a b : Int} (hg : wantedE n e g = true) (hx : ev n e x = .int .i64 a) (hy : ev n e y = .int .i64 b)
    (h : Plan P n K l O (upd e d (.int .i64 (w64 (a + b)))) w) : Plan P n K (⟨i, true, ⟨some d, .binOp .add t x y yt, ty, pos, aft, gd⟩, g⟩ :: l) O e w :=
  Plan.arith hg hx hy (wrap_w64 _) h
theorem Plan.negW {t : TypeId} {x : Operand} {a : Int} (hg : wantedE n e g = true) (hx : ev n e x = .int .i64 a)
    (h : Plan P n K l O (upd e d (.int .i64 (w64 (-a)))) w) : Plan P n K (⟨i, true, ⟨some d, .unOp .neg t x, ty, pos, aft, gd⟩, g⟩ :: l) O e w :=
  Plan.val hg (fun w => run_v (by
    rw [hx]
    show (Op.intArith .sub .i64 0 a).run P w = _
    simp only [Op.intArith]
    rw [show (0 : Int) - a = -a by omega, wrap_w64]; rfl)) h
/-- the number that is not below nought -/
theorem fold_w64 {n : Int} (h : -9223372036854775808 ≤ n ∧ n ≤ 9223372036854775807) : 0 ≤ max n (w64 (-(w64 (n + 1)))) := by unfold w64; omega
theorem wf_has {n : Int} (h : IntKind.i64.has n) : -9223372036854775808 ≤ n ∧ n ≤ 9223372036854775807 := by
  simp [IntKind.has, IntKind.min, IntKind.max, IntKind.signed, IntKind.bits] at h; omega
/-- strings, one behind the other -/
theorem Plan.addStr {t yt : TypeId} {x y : Operand} {X Y : List Byte} (hb : X.length + Y.length ≤ 9223372036854775807) (hg : wantedE n e g = true) (hx : ev n e x = .string (strL X)) (hy : ev n e y = .string (strL Y))
    (h : Plan P n K l O (upd e d (.string (strL (X ++ Y)))) w) : Plan P n K (⟨i, true, ⟨some d, .binOp .add t x y yt, ty, pos, aft, gd⟩, g⟩ :: l) O e w :=
  Plan.val hg (fun w => run_v (by
    rw [hx, hy]
    have hq : (eqGuard .add t x y (.string (strL X)) (.string (strL Y))).run P w = .ok () w := rfl
    rw [Sem.run_bind, hq]
    show (Op.stringOp .add (strL X) (strL Y)).run P w = _
    have e1 : ∀ Z : List Byte, (strL Z).size = Z.length := fun Z => by
      unfold strL
      have := congrArg List.length (strOfNums_data (Z.map fun b => (b.toNat : Int)))
      simpa using this
    have e2 : strL X ++ strL Y = strL (X ++ Y) := by
      apply ByteArray.ext
      apply Array.toList_inj.1
      rw [ByteArray.data_append, Array.toList_append]
      unfold strL
      rw [strOfNums_data, strOfNums_data, strOfNums_data, List.map_append, List.map_append]
    simp only [Op.stringOp, e1]
    rw [if_neg (by show ¬ _ > (9223372036854775807 : Int); omega), e2]
    rfl)) h
end step
end Go.LW
