import Derived.Test.YtbkgblhmlenocaaEb
import Derived.Lib.MakeNoZero
import Derived.Laws.IdiomStrings
import Derived.OpenShut
import Derived.ChangeSlices
import Derived.SizedLaws
import Derived.Lib.BytesEntry

/-
  ENGINE X, PART 9 (own work): structs compared.
-/
namespace Go.LW
set_option linter.unusedSimpArgs false
set_option linter.unusedVariables false
set_option linter.unusedSectionVars false
open Go Go.RowKit

def EqV (P : Program) (d : Nat) (t : TypeId) (v v' : Value) (b : Bool) : Prop := ∀ w, (Op.equalIn d t v v').run P w = .ok b w
def intT (P : Program) (t : TypeId) (k : IntKind) : Bool := match P.underlying t with | some (.int q) => q == k | _ => false
theorem intT_spec {P : Program} {t : TypeId} {k : IntKind} (h : intT P t k = true) : P.underlying t = some (.int k) := by
  unfold intT at h
  cases hu : P.underlying t with
  | none => rw [hu] at h; cases h
  | some q =>
    rw [hu] at h
    cases q <;> try (cases h; done)
    simp only [beq_iff_eq] at h
    subst h; rfl
section
variable {P : Program} {d : Nat} {t : TypeId}
theorem EqV.int {k : IntKind} {a b : Int} (h : intT P t k = true) : EqV P (d + 1) t (.int k a) (.int k b) (decide (a = b)) := fun w => by
  rw [run_equalIn_int w d t k k a b (intT_spec h)]
  congr 1
theorem EqV.nat {k : IntKind} {a b : Nat} (h : intT P t k = true) : EqV P (d + 1) t (.int k (a : Int)) (.int k (b : Int)) (decide (a = b)) := fun w => by
  rw [run_equalIn_int w d t k k a b (intT_spec h)]
  congr 1
  rw [Bool.eq_iff_iff, beq_iff_eq, decide_eq_true_iff]; omega
theorem EqV.u {k : IntKind} {s : Nat} {a b : BitVec s} (h : intT P t k = true) : EqV P (d + 1) t (VU k a) (VU k b) (decide (a = b)) := fun w => by
  rw [run_equalIn_int w d t k k _ _ (intT_spec h)]
  congr 1
  rw [Bool.eq_iff_iff, beq_iff_eq, decide_eq_true_iff, BitVec.toNat_eq]; omega
theorem EqV.bool {a b : Bool} (h : P.underlying t = some .bool) : EqV P (d + 1) t (.bool a) (.bool b) (a == b) := fun w => run_equalIn_bool' w d t a b h
theorem EqV.str {X Y : List Byte} (h : P.underlying t = some .string) : EqV P (d + 1) t (.string (strL X)) (.string (strL Y)) (decide (X = Y)) := fun w => by
  rw [run_equalIn_string w d t _ _ h, toList_inj]
  congr 1
  exact decide_eq_decide.2 strL_inj
theorem EqV.arr {s n : Nat} {kd : IntKind} {F G : Nat → BitVec s} (h : arrIB P t n kd = true) : EqV P (d + 1 + 1) t (AG [(n, fun q => VU kd (F q))]) (AG [(n, fun q => VU kd (G q))]) (eqB n F G) := fun w => by
  obtain ⟨el, i, hu, hi, hs, hk, _⟩ := arrIB_spec h
  unfold AG
  rw [run_equalIn_array w (d + 1) _ _ hu hi]
  have hc : P.cellsOf el = 1 := by simp [Program.cellsOf, hi, hs]
  rw [hc]
  refine run_eqItems d hk _ _ F G w _ fun j hj => ?_
  have hj := List.mem_range.1 hj
  simp [catL_one, hj]
/-- fields: type and offset -/
inductive EqF (P : Program) (d : Nat) (ps qs : PS) : List (TypeId × Nat) → Bool → Prop
  | nil : EqF P d ps qs [] true
  | agg {ft off : Nat} {fs : List (TypeId × Nat)} {b r : Bool} (A Y C A' Y' C' : PS) (hp : ps = A ++ Y ++ C) (hq : qs = A' ++ Y' ++ C') (ho : (A.map (·.1)).sum = off) (ho' : (A'.map (·.1)).sum = off)
      (ha : aggT P ft (Y.map (·.1)).sum = true) (ha' : aggT P ft (Y'.map (·.1)).sum = true) (h : EqV P d ft (AG Y) (AG Y') b) (t : EqF P d ps qs fs r) : EqF P d ps qs ((ft, off) :: fs) (b && r)
  | one {ft off : Nat} {fs : List (TypeId × Nat)} {b r : Bool} {v v' : Value} (A C A' C' : PS) (F F' : Nat → Value) (hp : ps = A ++ [(1, F)] ++ C) (hq : qs = A' ++ [(1, F')] ++ C') (ho : (A.map (·.1)).sum = off) (ho' : (A'.map (·.1)).sum = off)
      (ha : scalarT P ft = true) (hv : F 0 = v) (hv' : F' 0 = v') (h : EqV P d ft v v' b) (t : EqF P d ps qs fs r) : EqF P d ps qs ((ft, off) :: fs) (b && r)
theorem run_partS {ft off : Nat} {A C : PS} {F : Nat → Value} {v : Value} (ha : scalarT P ft = true) (ho : (A.map (·.1)).sum = off) (hv : F 0 = v) (w : World) : (part ft (catL (A ++ [(1, F)] ++ C)).toArray off).run P w = .ok v w := by
  unfold part
  rw [Sem.run_bind, run_isAggN ha w]
  have : (catL (A ++ [(1, F)] ++ C)).toArray[off]? = some v := by
    rw [catL_app, catL_app, ← ho, ← catL_length]
    simp [catL_one, hv]
  simp only [Result.andThen, Bool.false_eq_true, if_false, this, Sem.run_pure]
theorem run_partA' {ft off : Nat} {A Y C : PS} (ha : aggT P ft (Y.map (·.1)).sum = true) (ho : (A.map (·.1)).sum = off) (w : World) : (part ft (catL (A ++ Y ++ C)).toArray off).run P w = .ok (AG Y) w := by
  rw [catL_app, catL_app, ← ho, ← catL_length]
  exact run_partA ha rfl (catL_length _) w
theorem EqF.run {ps qs : PS} : ∀ {l : List (TypeId × Nat)} {b : Bool}, EqF P d ps qs l b → ∀ (fs : List Field), fs.map (fun f => (f.type, f.offset)) = l → (∀ f ∈ fs, f.name ≠ "_") → ∀ w, (Op.eqFields d (catL ps).toArray (catL qs).toArray fs).run P w = .ok b w := by
  intro l b h
  induction h with
  | nil =>
    intro fs hl _ w
    obtain rfl : fs = [] := List.map_eq_nil_iff.1 hl
    simp [Op.eqFields]
  | @agg ft off l b r A Y C A' Y' C' hp hq ho ho' ha ha' h t ih =>
    intro fs hl hn w
    cases fs with
    | nil => cases hl
    | cons f fs =>
      simp only [List.map_cons, List.cons.injEq, Prod.mk.injEq] at hl
      obtain ⟨⟨rfl, rfl⟩, hl⟩ := hl
      simp only [Op.eqFields, if_pos (hn f List.mem_cons_self), Sem.run_bind]
      have e1 := run_partA' (P := P) (C := C) ha ho w
      have e2 := run_partA' (P := P) (C := C') ha' ho' w
      rw [← hp] at e1
      rw [← hq] at e2
      simp only [e1, e2, Result.andThen_ok, h w]
      cases b with
      | true =>
        simp only [Bool.not_true, Bool.false_eq_true, if_false, Bool.true_and]
        exact ih fs hl (fun g hg => hn g (List.mem_cons_of_mem _ hg)) w
      | false => simp
  | @one ft off l b r v v' A C A' C' F F' hp hq ho ho' ha hv hv' h t ih =>
    intro fs hl hn w
    cases fs with
    | nil => cases hl
    | cons f fs =>
      simp only [List.map_cons, List.cons.injEq, Prod.mk.injEq] at hl
      obtain ⟨⟨rfl, rfl⟩, hl⟩ := hl
      simp only [Op.eqFields, if_pos (hn f List.mem_cons_self), Sem.run_bind]
      have e1 := run_partS (P := P) (C := C) ha ho hv w
      have e2 := run_partS (P := P) (C := C') ha ho' hv' w
      rw [← hp] at e1
      rw [← hq] at e2
      simp only [e1, e2, Result.andThen_ok, h w]
      cases b with
      | true =>
        simp only [Bool.not_true, Bool.false_eq_true, if_false, Bool.true_and]
        exact ih fs hl (fun g hg => hn g (List.mem_cons_of_mem _ hg)) w
      | false => simp
def fieldsB (P : Program) (t : TypeId) (l : List (TypeId × Nat)) : Bool := match P.underlying t with
  | some (.struct fs) => fs.toList.map (fun f => (f.type, f.offset)) == l && fs.toList.all (fun f => f.name != "_") && !P.stoodInHeld t
  | _ => false
theorem EqV.struct {l : List (TypeId × Nat)} {ps qs : PS} {b : Bool} (hB : fieldsB P t l = true) (h : EqF P d ps qs l b) : EqV P (d + 1) t (AG ps) (AG qs) b := fun w => by
  unfold fieldsB at hB
  cases hu : P.underlying t with
  | none => rw [hu] at hB; cases hB
  | some u =>
    rw [hu] at hB
    cases u <;> try (cases hB; done)
    rename_i fs
    simp only [Bool.and_eq_true, beq_iff_eq, Bool.not_eq_true', List.all_eq_true, bne_iff_ne, ne_eq] at hB
    obtain ⟨⟨h1, h2⟩, h3⟩ := hB
    have hf : P.fieldsOf t = fs := by unfold Program.fieldsOf; rw [hu]
    unfold AG
    rw [run_equalIn_struct w d t _ _ (by rw [hu, hf]) h3, hf]
    exact h.run fs.toList h1 (fun f hf => h2 f hf) w
end
section step
variable {P : Program} {n : Nat} {K : Pend → Env → World → Prop} {l : List It} {O O' : Pend} {e : Env} {w : World} {i ty : Nat} {d : Tmp} {pos : String} {aft : Array Edge} {gd g : Option (Nat × Bool)}
theorem Plan.eqStrV' {t yt : TypeId} {x y : Operand} {ps qs : PS} {b c : Bool} (hgd : P.eqGuardType P.depth t = false) (hg : wantedE n e g = true) (hx : ev n e x = AG ps) (hy : ev n e y = AG qs) (hq : EqV P 10000 t (AG ps) (AG qs) b) (hc : b = c)
    (h : Plan P n K l O (upd e d (.bool c)) w) : Plan P n K (⟨i, true, ⟨some d, .binOp .eql t x y yt, ty, pos, aft, gd⟩, g⟩ :: l) O e w :=
  Plan.val hg (fun w => run_v (by
    subst hc
    rw [hx, hy, Sem.run_bind]
    have h1 : (eqGuard .eql t x y (AG ps) (AG qs)).run P w = .ok () w := run_eqGuard hgd w
    rw [h1]
    simp only [Result.andThen_ok]
    have h2 := hq w
    unfold AG at h2 ⊢
    rw [run_eql_struct, h2]; rfl)) h
theorem Plan.neStrV' {t yt : TypeId} {x y : Operand} {ps qs : PS} {b c : Bool} (hgd : P.eqGuardType P.depth t = false) (hg : wantedE n e g = true) (hx : ev n e x = AG ps) (hy : ev n e y = AG qs) (hq : EqV P 10000 t (AG ps) (AG qs) b) (hc : b = c)
    (h : Plan P n K l O (upd e d (.bool (!c))) w) : Plan P n K (⟨i, true, ⟨some d, .binOp .neq t x y yt, ty, pos, aft, gd⟩, g⟩ :: l) O e w :=
  Plan.val hg (fun w => run_v (by
    subst hc
    rw [hx, hy, Sem.run_bind]
    have h1 : (eqGuard .neq t x y (AG ps) (AG qs)).run P w = .ok () w := run_eqGuard hgd w
    rw [h1]
    simp only [Result.andThen_ok]
    have h2 := hq w
    unfold AG at h2 ⊢
    rw [run_neq_struct, h2]; rfl)) h

theorem toNat_lt {x : Int} {m : Nat} (h0 : 0 ≤ x) (h : x < (m : Int)) : x.toNat < m := by omega
/-! a slice of no elements -/
theorem Plan.buildE {B : Nat} {w0 : Base} {L : List Rg} (hst : St B w0 L w) {t el : TypeId} {sz : Nat} (F : Nat → Value) (hu : P.underlying t = some (.slice el)) (hs : szT P el sz = true) (hg : wantedE n e g = true) (hO : EffO aft O L O')
    (h : ∀ b w', B ≤ b → St B w0 (⟨some b, 0, 0, F, true⟩ :: L) w' → Plan P n K l O' (upd e d (.slice (some ⟨b, 0, none⟩) 0 0)) w') :
    Plan P n K (⟨i, false, ⟨some d, .buildSlice t 0 #[], ty, pos, aft, gd⟩, g⟩ :: l) O e w := by
  have h' := hst.alloc [] el
  have h2 : St B w0 (⟨some w.heap.size, 0, 0, F, true⟩ :: L) (w.alloc (.cells (catL []).toArray el)) :=
    St.cons (show St B w0 L _ from h') (fun j hj => absurd hj (Nat.not_lt_zero j)) (fun _ j hj => absurd hj (Nat.not_lt_zero j)) (fun s _ _ => .inr (.inr (.inr (.inl rfl))))
  have hr : (execOp (ev n e) ⟨some d, .buildSlice t 0 #[], ty, pos, aft, gd⟩).run P w = .ok (.value (.slice (some ⟨w.heap.size, 0, none⟩) 0 0)) (w.alloc (.cells (catL []).toArray el)) := run_v (by
    simp [Instr.buildSlice, Sem.run_bind, run_underlying hu w, Result.andThen, szT_spec hs, newRow, newObj, Instr.fill, catL]
    rw [show ∀ v : Value, Array.map (fun _ : Nat => v) (Array.range 0) = #[] from fun _ => by simp]
    rfl)
  cases hO with
  | keep hp => refine Plan.eff hg ?_; rw [hr]; exact .inl ⟨(hp.app _ rfl).keep h', h _ _ hst.base h2⟩
  | wait hw => refine Plan.eff hg ?_; rw [hr]; exact .inr ⟨hw, h _ _ hst.base h2⟩
  | mix O' hf hp => refine Plan.effX hg ?_; rw [hr]; exact ⟨PIn.mix hf (hp.app _ rfl) h', (show (O.filter fun p => !waitsA aft p.1) = O' from hf) ▸ h _ _ hst.base h2⟩
theorem Plan.buildEL {B : Nat} {w0 : Base} {L : List Rg} (hst : St B w0 L w) {t el : TypeId} {sz : Nat} (F : Nat → Value) (hu : P.underlying t = some (.slice el)) (hs : szT P el sz = true) (hg : wantedE n e g = true) (hO : EffO aft O L O')
    (h : ∀ b w', B ≤ b → St B w0 (⟨some b, 0, 0 * sz, F, true⟩ :: L) w' → Plan P n K l O' (upd e d (.slice (some ⟨b, 0, none⟩) 0 0)) w') :
    Plan P n K (⟨i, false, ⟨some d, .buildSlice t 0 #[], ty, pos, aft, gd⟩, g⟩ :: l) O e w :=
  Plan.buildE hst F hu hs hg hO fun b w' hb h' => h b w' hb (by rw [Nat.zero_mul]; exact h')
theorem Ow.empty {b : Nat} : Ow (some ⟨b, 0, none⟩) (some b) ([] : List Byte).length 0 (fun _ => 0#8) [] := ⟨.inr ⟨b, rfl, rfl⟩, Nat.le_refl _, rfl, fun q hq => absurd hq (Nat.not_lt_zero q)⟩
theorem LO.empty {D : EL} {L : List Rg} {b : Nat} {F : Nat → Value} : LO D L (some ⟨b, 0, none⟩) (some b) ([] : List D.α).length 0 F [] := ⟨.inr ⟨b, rfl, rfl⟩, Nat.le_refl _, rfl, fun j x hx => by simp at hx, fun q hq => absurd hq (by simp)⟩
end step

/-! parts' cells are single -/
def Ones : List (Nat × (Nat → Value)) → Prop
  | [] => True
  | p :: ps => (∀ q, (p.2 q).oneCell' = true) ∧ Ones ps
theorem Ones.mem : ∀ {ps : List (Nat × (Nat → Value))}, Ones ps → ∀ v ∈ catL ps, v.oneCell' = true
  | [], _, v, hv => by simp [catL] at hv
  | p :: ps, h, v, hv => by
    rw [catL_cons] at hv
    rcases List.mem_append.1 hv with hv | hv
    · obtain ⟨q, _, rfl⟩ := List.mem_map.1 hv
      exact h.1 q
    · exact Ones.mem h.2 v hv

section step
variable {P : Program} {n : Nat} {K : Pend → Env → World → Prop} {l : List It} {O O' : Pend} {e : Env} {w : World} {i ty : Nat} {d : Tmp} {pos : String} {aft : Array Edge} {gd g : Option (Nat × Bool)}
variable {B : Nat} {w0 : Base} {L L' : List Rg} {D : EL}
theorem LO.lvf {a : Option Addr} {pb : Option Nat} {len cap : Nat} {F : Nat → Value} {X : List D.α} (hf : D.flat) (h : LO D [] a pb len cap F X) (k : Nat) (hL : L[k]? = some ⟨pb, 0, cap * D.sz, F, true⟩) : LV D L k a len cap X := h.lv (fun b x hs => hf _ _ b x hs) k hL
theorem Plan.idxLVS (_ : St B w0 L w) {t : TypeId} {x y : Operand} {k : IntKind} {ix len cc j sz : Nat} {a : Option Addr} {X : List D.α} (hX : LV D L ix a len cc X) (ha : slB P t sz = true) (hg : wantedE n e g = true) (hx : ev n e x = .slice a len cc) (hy : ev n e y = .int k (j : Int)) (hj : j < len)
    (h : Plan P n K l O (upd e d (.pointer (a.map fun z => ⟨z.block, z.off + j * sz, none⟩))) w) : Plan P n K (⟨i, true, ⟨some d, .indexAddr t x y, ty, pos, aft, gd⟩, g⟩ :: l) O e w := Plan.idxLV hX ha hg hx hy hj h
/-- an element's own bytes, as a view -/
theorem Plan.slLO (hst : St B w0 L w) {t : TypeId} {x : Operand} {len cap j sz : Nat} {a : Option Addr} {pb : Option Nat} {F : Nat → Value} {X : List D.α} (dflt : D.α) (k : Nat) (hO : LO D [] a pb len cap F X) (hsz : D.sz = sz) (f : D.α → Nat → Byte) (hE : ∀ b y, D.E b y = [(sz, fun q => VU .u8 (f y q))]) (hck : ∀ v, D.ck v → ∃ c : Byte, v = VU .u8 c) (ha : arrB P t sz 1 = true) (hg : wantedE n e g = true) (hx : ev n e x = .pointer (a.map fun z => ⟨z.block, z.off + j * sz, none⟩)) (hj : j < len)
    (hL : L[k]? = some ⟨pb, 0, cap * sz, F, true⟩) (h0 : 0 < sz)
    (h : ∀ (G : Nat → Byte), LO D [] a pb len cap (fun q => VU .u8 (G q)) X → St B w0 (L.set k ⟨pb, 0, cap * sz, fun q => VU .u8 (G q), true⟩) w → Bx (L.set k ⟨pb, 0, cap * sz, fun q => VU .u8 (G q), true⟩) k (a.map fun z => ⟨z.block, z.off + j * sz, none⟩) sz sz (dl sz (f (X.getD j dflt))) →
      Plan P n K l O (upd e d (.slice (a.map fun z => ⟨z.block, z.off + j * sz, none⟩) sz sz)) w) :
    Plan P n K (⟨i, true, ⟨some d, .slice t x none none none, ty, pos, aft, gd⟩, g⟩ :: l) O e w := by
  subst hsz
  have hOc := hO.hc
  have hk : k < L.length := (List.getElem?_eq_some_iff.1 hL).1
  obtain ⟨b, rfl, rfl⟩ := hO.ho.pos (by omega)
  have hG : ∃ G : Nat → Byte, ∀ q, q < cap * D.sz → F q = VU .u8 (G q) := by
    exact ⟨fun q => Classical.epsilon fun c : Byte => F q = VU .u8 c, fun q hq => Classical.epsilon_spec (hck _ (hO.hK q hq))⟩
  obtain ⟨G, hG⟩ := hG
  have hsub : ∀ j k, j < len → k < D.sz → j * D.sz + k < cap * D.sz := fun j k hj hk => by
    have : (j + 1) * D.sz ≤ cap * D.sz := Nat.mul_le_mul_right _ (by omega)
    rw [Nat.succ_mul] at this
    omega
  have hO' : LO D [] (some ⟨b, 0, none⟩) (some b) len cap (fun q => VU .u8 (G q)) X := ⟨hO.ho, hO.hc, hO.hl, fun j x hx => by
    have hj : j < len := by rw [← hO.hl]; exact (List.getElem?_eq_some_iff.1 hx).1
    exact (hO.hF j x hx).congr fun q hq => hG _ (hsub j q hj hq), fun q hq => by rw [← hG q hq]; exact hO.hK q hq⟩
  have hst' : St B w0 (L.set k ⟨some b, 0, cap * D.sz, fun q => VU .u8 (G q), true⟩) w := by
    have h2 : L.set k ⟨some b, 0, cap * D.sz, F, true⟩ = L := by
      obtain ⟨hk, hLk⟩ := List.getElem?_eq_some_iff.1 hL
      rw [← hLk]; exact List.set_getElem_self hk
    have h3 : St B w0 (L.set k ⟨some b, 0, cap * D.sz, F, true⟩) w := by rw [h2]; exact hst
    exact h3.congr_set hG
  refine Plan.slArr (b := b) (o := 0 + j * D.sz) (lo := 0) (hi := D.sz) ha hg (by rw [hx]; rfl) rfl rfl ⟨Nat.zero_le _, Nat.le_refl _, h0⟩ ?_
  have := h G hO' hst' ⟨dl_length _ _, Nat.le_refl _, fun _ => ⟨0, cap * D.sz, j * D.sz, 0 + j * D.sz, some b, G, true, by rw [List.getElem?_set_self hk], fun _ => ⟨b, rfl, rfl⟩, rfl, by have := hsub j (D.sz - 1) hj (by omega); omega, fun q hq => ?_⟩⟩
  · simpa using this
  · rw [lit_dl _ hq]
    obtain ⟨bb, _, hc⟩ := hO'.hF j _ (getD_of (by rw [hO.hl]; exact hj) dflt)
    have h5 := hc q (VU .u8 (f (X.getD j dflt) q)) (by rw [hE, catL_one]; simp [hq])
    have h6 : (VU .u8 (G (j * D.sz + q)) : Value) = VU .u8 (f (X.getD j dflt) q) := h5
    have h7 : ((G (j * D.sz + q)).toNat : Int) = ((f (X.getD j dflt) q).toNat : Int) := by injection h6
    exact (BitVec.eq_of_toNat_eq (by omega)).symm
/-- a part of a view -/
theorem Plan.slLV {t : TypeId} {x : Operand} {ix len cap lo hi sz : Nat} {a : Option Addr} {X : List D.α} {low high : Option Operand} (hX : LV D L ix a len cap X) (hsz : D.sz = sz) (ha : slB P t sz = true) (hg : wantedE n e g = true) (hx : ev n e x = .slice a len cap)
    (hlo : match low with | some y => ∃ k, ev n e y = .int k (lo : Int) | none => lo = 0) (hhi : match high with | some y => ∃ k, ev n e y = .int k (hi : Int) | none => hi = len) (hb : lo ≤ hi ∧ hi ≤ len)
    (h : ∀ a' c', LV D L ix a' (sgl X lo hi).length c' (sgl X lo hi) → Plan P n K l O (upd e d (.slice a' (sgl X lo hi).length c')) w) : Plan P n K (⟨i, true, ⟨some d, .slice t x low high none, ty, pos, aft, gd⟩, g⟩ :: l) O e w := by
  subst hsz
  have h1 := hX.sgl hb
  have h2 : (sgl X lo hi).length = hi - lo := h1.hl
  refine Plan.slSl ha hg hx hlo hhi (by have := hX.le; omega) ?_
  rw [← h2] at h1 ⊢
  exact h _ _ h1
theorem LV.two {L L' : List Rg} (hf : D.flat) {i i1 i2 j1 j2 : Nat} {a : Option Addr} {len cc : Nat} {X : List D.α} {r1 r2 : Rg} (h : LV D L i a len cc X) (hi : i = i1 ∨ i = i2) (h1 : L[i1]? = some r1) (h2 : L[i2]? = some r2) (k1 : L'[j1]? = some r1) (k2 : L'[j2]? = some r2) : LV D L' (if i = i1 then j1 else j2) a len cc X := by
  by_cases h0 : i = i1
  · rw [if_pos h0]; exact h.move hf (by rw [h0]; exact h1) k1
  · rw [if_neg h0]; exact h.move hf (by rw [hi.resolve_left h0]; exact h2) k2
/-- append; the slice as it was is a view from then on -/
theorem Plan.appendLK (hst : St B w0 L w) {t t' el' : TypeId} {x y : Operand} {len cap m cy iy sz by' : Nat} {a ay : Option Addr} {pb : Option Nat} {F : Nat → Value} {X Y : List D.α} {z : Value} (bb : D.β) (zx : D.α) (k : Nat) (hfl : D.flat) (hO : LO D [] a pb len cap F X) (hsz : D.sz = sz) (he : elD P t = some (sz, by', some z)) (hzc : z.cells.toList = catL (D.E bb zx)) (ht' : P.underlying t' = some (.slice el')) (hg : wantedE n e g = true)
    (hx : ev n e x = .slice a len cap) (hy : ev n e y = .slice ay m cy) (hL : L[k]? = some ⟨pb, 0, cap * sz, F, true⟩) (hY : LV D L iy ay m cy Y) (hb : (len + m) * by' ≤ 140737488355328) (h63 : len + m < 9223372036854775808)
    (hw : ∀ q r, EffO aft O (q :: L.set k r) O')
    (h : ∀ a' pb' cap' (F' : Nat → Value) r iz w', LO D [] a' pb' (X ++ Y).length cap' F' (X ++ Y) → (iz = 0 ∨ iz = k + 1) → LV D (⟨pb', 0, cap' * sz, F', true⟩ :: L.set k r) iz a len cap X → St B w0 (⟨pb', 0, cap' * sz, F', true⟩ :: L.set k r) w' → Plan P n K l O' (updO e (some d) (.slice a' (X ++ Y).length cap')) w') :
    Plan P n K (⟨i, false, ⟨some d, .call ⟨.builtin .append, #[x, y], #[t, t']⟩, ty, pos, aft, gd⟩, g⟩ :: l) O e w := by
  subst hsz
  have hzs : z.cells.size = D.sz := by rw [← Array.length_toList, hzc, D.hlen]
  obtain ⟨gg, hsrc, hgg⟩ := Src.ofLV hst ht' hY
  obtain ⟨w', a', pb', cap', ip, r, hr, ho', ⟨hcap, _⟩, hst', hcase⟩ := run_appendK (P := P) (ty := ty) (zf := fun q => z.cells[q]!) hst (elB_of he) hzs (fun q hq => rfl) hL hO.ho hsrc hO.hc hb h63
  have hk : k < L.length := (List.getElem?_eq_some_iff.1 hL).1
  have hl : (X ++ Y).length = len + m := by rw [List.length_append, hO.hl, hY.hl]
  have hin0 : ∀ {c j k : Nat}, j < c → k < D.sz → j * D.sz + k < c * D.sz := fun {c j k} hj hk => by
    have : (j + 1) * D.sz ≤ c * D.sz := Nat.mul_le_mul_right _ hj
    rw [Nat.succ_mul] at this
    omega
  have hLO : LO D [] a' pb' (len + m) cap' (fun q => if ip = true ∨ q < (len + m) * D.sz then spl F (len * D.sz) (m * D.sz) gg q else z.cells[q % D.sz]!) (X ++ Y) := by
    refine ⟨ho', hcap, hl, fun j x hx => ?_, app_ck hO hzc hY.hl hgg (fun hip => ?_)⟩
    rotate_left
    · rcases hcase with ⟨_, _, _, h5⟩ | ⟨h5, _⟩
      · omega
      · rw [h5] at hip; cases hip
    have hj : j < len + m := by rw [← hl]; exact (List.getElem?_eq_some_iff.1 hx).1
    by_cases h1 : j < X.length
    · rw [List.getElem?_append_left h1] at hx
      refine (hO.hF j x hx).congr fun k hk => ?_
      rw [if_pos (.inr (hin0 hj hk)), spl_out]
      rintro ⟨h2, _⟩
      have := hin0 (c := len) (j := j) (k := k) (by rw [hO.hl] at h1; exact h1) hk
      omega
    · rw [List.getElem?_append_right (by omega)] at hx
      obtain ⟨b, s1, s2⟩ := hgg _ x hx
      refine EL.cells.congr ⟨b, hfl _ _ b x s1, s2⟩ fun k hk => ?_
      have e1 : j * D.sz = len * D.sz + (j - X.length) * D.sz := by rw [← Nat.add_mul, hO.hl]; congr 1; rw [hO.hl] at h1; omega
      have e2 : (j - X.length) * D.sz + k < m * D.sz := by
        have := hin0 hj hk
        rw [Nat.add_mul] at this
        omega
      rw [if_pos (.inr (hin0 hj hk)), spl_in _ _ _ _ _ ⟨by omega, by omega⟩]
      congr 1; omega
  have hview : ∃ iz, (iz = 0 ∨ iz = k + 1) ∧ LV D (⟨pb', 0, cap' * D.sz, fun q => if ip = true ∨ q < (len + m) * D.sz then spl F (len * D.sz) (m * D.sz) gg q else z.cells[q % D.sz]!, true⟩ :: L.set k r) iz a len cap X := by
    rcases hcase with ⟨h1, h2, h3, h4⟩ | ⟨_, h1⟩
    · subst h1 h2 h3 h4
      refine ⟨0, .inl rfl, LO.lv (L0 := []) ⟨hO.ho, hO.hc, hO.hl, fun j x hx => ?_, hLO.hK⟩ (fun b x h => hfl _ _ b x h) 0 rfl⟩
      refine (hO.hF j x hx).congr fun q hq => ?_
      have hj : j < len := by rw [← hO.hl]; exact (List.getElem?_eq_some_iff.1 hx).1
      rw [if_pos (.inl rfl), spl_out]
      rintro ⟨h2, _⟩
      have := hin0 (k := q) hj hq
      omega
    · subst h1
      refine ⟨k + 1, .inr rfl, LO.lv hO (fun b x h => hfl _ _ b x h) (k + 1) ?_⟩
      rw [List.getElem?_cons_succ, List.getElem?_set_self hk]
  obtain ⟨iz, hiz, hV⟩ := hview
  refine Plan.effS hg (w' := w') (v := .slice a' (X ++ Y).length cap') (run_blt2 fun c => ?_) hst' (hw _ _) fun w' hw' => h a' pb' cap' _ r iz w' ?_ hiz hV hw'
  · rw [hx, hy]
    simp only [builtin, Sem.run_bind, hr, hl]
    rfl
  · rw [hl]; exact hLO
/-- a sum and a sign that go round -/
def w64 (z : Int) : Int := (z + 9223372036854775808) % 18446744073709551616 - 9223372036854775808
theorem wrap_w64 (z : Int) : IntKind.i64.wrap z = w64 z := by rw [IntKind.wrap_i64]; unfold w64; omega
theorem Plan.addW {t yt : TypeId} {x y : Operand} {a b : Int} (hg : wantedE n e g = true) (hx : ev n e x = .int .i64 a) (hy : ev n e y = .int .i64 b)
    (h : Plan P n K l O (upd e d (.int .i64 (w64 (a + b)))) w) : Plan P n K (⟨i, true, ⟨some d, .binOp .add t x y yt, ty, pos, aft, gd⟩, g⟩ :: l) O e w :=
  Plan.arith hg hx hy (wrap_w64 _) h
theorem Plan.negW {t : TypeId} {x : Operand} {a : Int} (hg : wantedE n e g = true) (hx : ev n e x = .int .i64 a)
    (h : Plan P n K l O (upd e d (.int .i64 (w64 (-a)))) w) : Plan P n K (⟨i, true, ⟨some d, .unOp .neg t x, ty, pos, aft, gd⟩, g⟩ :: l) O e w :=
  Plan.val hg (fun w => run_v (by
    rw [hx]
    show (Op.intArith .sub .i64 0 a).run P w = _
    simp only [Op.intArith]
    rw [show (0 : Int) - a = -a by omega, wrap_w64]; rfl)) h
/-- the number that is not below nought -/
theorem fold_w64 {n : Int} (h : -9223372036854775808 ≤ n ∧ n ≤ 9223372036854775807) : 0 ≤ max n (w64 (-(w64 (n + 1)))) := by unfold w64; omega
theorem wf_has {n : Int} (h : IntKind.i64.has n) : -9223372036854775808 ≤ n ∧ n ≤ 9223372036854775807 := by
  simp [IntKind.has, IntKind.min, IntKind.max, IntKind.signed, IntKind.bits] at h; omega
/-- strings, one behind the other -/
theorem Plan.addStr {t yt : TypeId} {x y : Operand} {X Y : List Byte} (hb : X.length + Y.length ≤ 9223372036854775807) (hg : wantedE n e g = true) (hx : ev n e x = .string (strL X)) (hy : ev n e y = .string (strL Y))
    (h : Plan P n K l O (upd e d (.string (strL (X ++ Y)))) w) : Plan P n K (⟨i, true, ⟨some d, .binOp .add t x y yt, ty, pos, aft, gd⟩, g⟩ :: l) O e w :=
  Plan.val hg (fun w => run_v (by
    rw [hx, hy]
    have hq : (eqGuard .add t x y (.string (strL X)) (.string (strL Y))).run P w = .ok () w := rfl
    rw [Sem.run_bind, hq]
    show (Op.stringOp .add (strL X) (strL Y)).run P w = _
    have e1 : ∀ Z : List Byte, (strL Z).size = Z.length := fun Z => by
      unfold strL
      have := congrArg List.length (strOfNums_data (Z.map fun b => (b.toNat : Int)))
      simpa using this
    have e2 : strL X ++ strL Y = strL (X ++ Y) := by
      apply ByteArray.ext
      apply Array.toList_inj.1
      rw [ByteArray.data_append, Array.toList_append]
      unfold strL
      rw [strOfNums_data, strOfNums_data, strOfNums_data, List.map_append, List.map_append]
    simp only [Op.stringOp, e1]
    rw [if_neg (by show ¬ _ > (9223372036854775807 : Int); omega), e2]
    rfl)) h
end step
end Go.LW

/-
  ENGINE X, PART 10 (own work): the library's room of whatever bytes.
-/
namespace Go.LW
set_option linter.unusedSimpArgs false
set_option linter.unusedVariables false
set_option linter.unusedSectionVars false
open Go Go.RowKit

theorem digits_u8 : ∀ (n t : Nat) (acc : Array Value), (∀ (q : Nat) (v : Value), acc[q]? = some v → ∃ x : Byte, v = VU .u8 x) → ∀ (q : Nat) (v : Value), (Extern.BytealgMakeNoZero.digits n t acc)[q]? = some v → ∃ x : Byte, v = VU .u8 x
  | 0, _, _, h => h
  | n + 1, t, acc, h => by
    refine digits_u8 n (t / 256) _ fun q v hv => ?_
    rw [Array.getElem?_push] at hv
    split at hv
    · obtain rfl := Option.some.inj hv
      refine ⟨BitVec.ofNat 8 t, ?_⟩
      show Value.int .u8 _ = Value.int .u8 _
      congr 1
    · exact h q v hv
theorem run_mkNZ {P : Program} (w : World) (ps : Array TypeId) (t e : TypeId) (ht : P.underlying t = some (.slice e)) (n : Nat) (hn : n ≤ 281474976710656) :
    ∃ (c : Nat) (F : Nat → Byte), (Extern.BytealgMakeNoZero.makeNoZero ps #[t] #[.int .i64 n]).run P w = .ok (.slice (some ⟨w.heap.size, 0, none⟩) n c) (w.drew.drew.alloc (.cells (catL [(c, fun q => VU .u8 (F q))]).toArray e)) ∧ n ≤ c := by
  have hdef : Extern.BytealgMakeNoZero.makeNoZero ps #[t] #[.int .i64 n] =
      (do
        let .slice elem ← underlying t | stuck "bytealg.MakeNoZero: slice type expected"
        if (n : Int) < 0 || (n : Int) > 2 ^ 48 then runtimePanic (.error "makeslice: len out of range")
        let cap ← choose (.appendCap (n : Int).toNat 0 elem)
        askRoom cap
        let bytes ← choose (.extern "internal/bytealg.MakeNoZero.bytes" 0)
        let a ← newRow elem (Extern.BytealgMakeNoZero.digits cap bytes #[])
        pure (.slice (some a) (n : Int).toNat cap)) := rfl
  obtain ⟨cs, hcs, hsz⟩ : ∃ cs : Array Value, cs = Extern.BytealgMakeNoZero.digits (grownCap w n 0 e) ((Question.extern "internal/bytealg.MakeNoZero.bytes" 0).cut (w.tape (w.drawn + 1) (.extern "internal/bytealg.MakeNoZero.bytes" 0))) #[] ∧ cs.size = grownCap w n 0 e :=
    ⟨_, rfl, by rw [Lib.size_digits]; simp⟩
  have hu : ∀ (q : Nat) (v : Value), cs[q]? = some v → ∃ x : Byte, v = VU .u8 x := by
    rw [hcs]; exact digits_u8 _ _ _ (fun q v h => by simp at h)
  classical
  have hF : ∃ F : Nat → Byte, ∀ (q : Nat) (v : Value), cs[q]? = some v → v = VU .u8 (F q) := by
    refine ⟨fun q => if h : ∃ x : Byte, cs[q]? = some (VU .u8 x) then h.choose else 0#8, fun q v hv => ?_⟩
    obtain ⟨x, rfl⟩ := hu q v hv
    have h : ∃ x : Byte, cs[q]? = some (VU .u8 x) := ⟨x, hv⟩
    show _ = VU IntKind.u8 (if h : ∃ x : Byte, cs[q]? = some (VU .u8 x) then h.choose else 0#8)
    rw [dif_pos h]
    have h2 := h.choose_spec
    exact Option.some.inj (hv.symm.trans h2)
  obtain ⟨F, hF⟩ := hF
  have hc : (catL [(grownCap w n 0 e, fun q => VU .u8 (F q))]).toArray = cs := by
    rw [catL_one]
    apply Array.ext'
    apply List.ext_getElem?
    intro q
    by_cases hq : q < grownCap w n 0 e
    · rw [List.getElem?_map, List.getElem?_range hq]
      have h1 : cs[q]? = some cs[q] := Array.getElem?_eq_getElem (by omega)
      have h2 := hF q _ h1
      rw [← Array.getElem?_toList, ] at h1
      rw [h1, h2]; rfl
    · rw [List.getElem?_eq_none (by simpa using hq), List.getElem?_eq_none (by rw [Array.length_toList]; omega)]
  refine ⟨grownCap w n 0 e, F, ?_, by simpa using grownCap_ge w n 0 e⟩
  rw [hc, hcs, hdef]
  have h1 : ¬ (n : Int) < 0 := by omega
  have h2 : ¬ (281474976710656 : Int) < (n : Int) := by omega
  simp [run_underlying ht, h1, h2, Question.forced, newRow, grownCap]
/-! what an effect waits for is no longer pending -/
theorem Filt.nil {aft : Array Edge} : ([] : Pend).filter (fun p => !waitsA aft p.1) = [] := rfl
theorem Filt.drop {aft : Array Edge} {k : Nat} {S : World → Prop} {O O' : Pend} (h : waitsA aft k = true) (t : O.filter (fun p => !waitsA aft p.1) = O') : ((k, S) :: O : Pend).filter (fun p => !waitsA aft p.1) = O' := by
  rw [List.filter_cons, if_neg (by show ¬ (!waitsA aft k) = true; rw [h]; exact Bool.false_ne_true)]; exact t
theorem Filt.keep {aft : Array Edge} {k : Nat} {S : World → Prop} {O O' : Pend} (h : waitsA aft k = false) (t : O.filter (fun p => !waitsA aft p.1) = O') : ((k, S) :: O : Pend).filter (fun p => !waitsA aft p.1) = (k, S) :: O' := by
  rw [List.filter_cons, if_pos (by show (!waitsA aft k) = true; rw [h]; rfl), t]
section step
variable {P : Program} {n : Nat} {K : Pend → Env → World → Prop} {l : List It} {O O' : Pend} {e : Env} {w : World} {i ty : Nat} {d : Tmp} {pos : String} {aft : Array Edge} {gd g : Option (Nat × Bool)}
variable {B : Nat} {w0 : Base} {L L' : List Rg}
theorem Plan.mkNZ (hst : St B w0 L w) {f : FuncId} {fn : Func} {x : Operand} {at' ps : Array TypeId} {t el : TypeId} {m : Nat} (hf : P.funcs[f]? = some fn) (hname : (fn.name == "runtime.NumGoroutine") = false) (hb : fn.body.isNone = true) (hn : Extern.findNext fn = none) (he : Extern.find fn = some (Extern.BytealgMakeNoZero.makeNoZero ps #[t])) (ht : P.underlying t = some (.slice el))
    (hm : m ≤ 281474976710656) (hg : wantedE n e g = true) (hx : ev n e x = VN m) (hO : ∀ r, EffO aft O (r :: L) O')
    (h : ∀ b cap (F : Nat → Byte) X w', B ≤ b → X.length = m → Ow (some ⟨b, 0, none⟩) (some b) X.length cap F X → St B w0 (⟨some b, 0, cap, fun q => VU .u8 (F q), true⟩ :: L) w' → Plan P n K l O' (updO e (some d) (.slice (some ⟨b, 0, none⟩) X.length cap)) w') :
    Plan P n K (⟨i, false, ⟨some d, .call ⟨.value (.func f), #[x], at'⟩, ty, pos, aft, gd⟩, g⟩ :: l) O e w := by
  obtain ⟨c, F, hr, hc⟩ := run_mkNZ (P := P) w ps t el ht m hm
  have hl : (dl m F).length = m := dl_length _ _
  have hOw : Ow (some ⟨w.heap.size, 0, none⟩) (some w.heap.size) (dl m F).length c F (dl m F) :=
    ⟨.inr ⟨_, rfl, rfl⟩, by rw [hl]; exact hc, rfl, fun q hq => by rw [hl] at hq; exact lit_dl F hq⟩
  refine Plan.effS hg (w' := w.drew.drew.alloc (.cells (catL [(c, fun q => VU .u8 (F q))]).toArray el)) (v := .slice (some ⟨w.heap.size, 0, none⟩) (dl m F).length c) ?_ (hst.drew.drew.alloc [(c, fun q => VU .u8 (F q))] el) (hO _) (fun w' hw' => h _ c F (dl m F) w' hst.base hl hOw hw')
  have hρ : ev n e (.func f) = .func (.func f) #[] #[] := rfl
  have h1 := run_callFunc_extern (P := P) hf hname hb hn he #[.int .i64 (m : Int)] w
  rw [hr] at h1
  simp only [execOp, resolve, hρ, Deferred.ofValue, Sem.run_bind, Sem.run_pure, Result.andThen, invoke]
  have h2 : (#[] ++ Array.map (ev n e) #[x] ++ #[] : Array Value) = #[.int .i64 (m : Int)] := by simp [hx, VN]
  rw [h2, h1, hl]
  rfl
/-- a list, from j on overlaid -/
def ovr (X : List Byte) (j cnt : Nat) (Y : List Byte) : List Byte := dl X.length (spl (lit X) j cnt (lit Y))
theorem ovr_length (X : List Byte) (j cnt : Nat) (Y : List Byte) : (ovr X j cnt Y).length = X.length := dl_length _ _
theorem Plan.copyO (hst : St B w0 L w) {t t' : TypeId} {x y : Operand} {a as : Option Addr} {pb : Option Nat} {len cap ls cs lo hi iy : Nat} {F : Nat → Byte} {X Y : List Byte} (k cnt : Nat) (hO : Ow a pb len cap F X) (hu : slB P t 1 = true) (hg : wantedE n e g = true)
    (hx : ev n e x = .slice (if cap = lo then a else a.map (·.add (lo * 1))) (hi - lo) (cap - lo)) (hy : ev n e y = .slice as ls cs) (hY : Bx L iy as ls cs Y) (hL : L[k]? = some ⟨pb, 0, cap, fun q => VU .u8 (F q), true⟩) (hb : lo ≤ hi ∧ hi ≤ len) (hcnt : cnt = min ls (hi - lo))
    (hw : ∀ r, EffO aft O (L.set k r) O')
    (h : ∀ (F' : Nat → Byte) w', Ow a pb len cap F' (ovr X lo cnt Y) → St B w0 (L.set k ⟨pb, 0, cap, fun q => VU .u8 (F' q), true⟩) w' → Plan P n K l O' (updO e (some d) (VN cnt)) w') :
    Plan P n K (⟨i, false, ⟨some d, .call ⟨.builtin .copy, #[x, y], #[t, t']⟩, ty, pos, aft, gd⟩, g⟩ :: l) O e w := by
  have hc := hO.hc
  refine Plan.copyB (jd := lo) (od := lo) hst k cnt hu hg hx hy hL (hY.bs' k hL) (fun h0 => ?_) (by omega) hcnt (by omega) (hw _) fun w' hw' => h _ w' ⟨hO.ho, hc, by rw [ovr_length]; exact hO.hl, fun q hq => ?_⟩ hw'
  · obtain ⟨b, h1, h2⟩ := hO.ho.sl hc (show 0 < len by omega)
    refine ⟨b, h1, ?_⟩
    rw [if_neg (by omega), h2]
    simp only [Option.map_some, Addr.add, Nat.mul_one, Nat.zero_add]
    by_cases h3 : lo = 0
    · subst h3; rw [if_pos rfl]
    · rw [if_neg h3]
  · unfold ovr
    rw [lit_dl _ (by rw [hO.hl]; exact hq)]
    unfold spl
    split
    · rfl
    · exact hO.hF q hq
theorem Plan.copyO0 (hst : St B w0 L w) {t t' : TypeId} {x y : Operand} {a as : Option Addr} {pb : Option Nat} {len cap ls cs iy : Nat} {F : Nat → Byte} {X Y : List Byte} (k cnt : Nat) (hO : Ow a pb len cap F X) (hu : slB P t 1 = true) (hg : wantedE n e g = true)
    (hx : ev n e x = .slice a len cap) (hy : ev n e y = .slice as ls cs) (hY : Bx L iy as ls cs Y) (hL : L[k]? = some ⟨pb, 0, cap, fun q => VU .u8 (F q), true⟩) (hcnt : cnt = min ls len)
    (hw : ∀ r, EffO aft O (L.set k r) O')
    (h : ∀ (F' : Nat → Byte) w', Ow a pb len cap F' (ovr X 0 cnt Y) → St B w0 (L.set k ⟨pb, 0, cap, fun q => VU .u8 (F' q), true⟩) w' → Plan P n K l O' (updO e (some d) (VN cnt)) w') :
    Plan P n K (⟨i, false, ⟨some d, .call ⟨.builtin .copy, #[x, y], #[t, t']⟩, ty, pos, aft, gd⟩, g⟩ :: l) O e w := by
  refine Plan.copyO (lo := 0) (hi := len) hst k cnt hO hu hg ?_ hy hY hL ⟨Nat.zero_le _, Nat.le_refl _⟩ (by rw [Nat.sub_zero]; exact hcnt) hw h
  rw [hx, Nat.sub_zero, Nat.sub_zero]
  have : (if cap = 0 then a else a.map (·.add (0 * 1))) = a := by
    split
    · rfl
    · cases a with
      | none => rfl
      | some a => simp [Addr.add]
  rw [this]
end step
end Go.LW

/-
  ENGINE X, PART 11 (own work): structs of numbers that came in.
-/
namespace Go.LW
set_option linter.unusedSimpArgs false
set_option linter.unusedVariables false
set_option linter.unusedSectionVars false
open Go Go.RowKit

inductive CkL (P : Program) (w : World) (r : Reach) (base : Nat) : List TypeId → List Value → Prop
  | nil : CkL P w r base [] []
  | cons {u : TypeId} {v : Value} {ts : List TypeId} {cs : List Value} (h : Cell.okWide P w r base u v) (t : CkL P w r base ts cs) : CkL P w r base (u :: ts) (v :: cs)
theorem CkL.of {P : Program} {w : World} {r : Reach} {base : Nat} : ∀ (ts : List TypeId) (cs : List Value), cs.length = ts.length → (∀ (i : Nat) v, cs[i]? = some v → ∃ u, ts[i]? = some u ∧ Cell.okWide P w r base u v) → CkL P w r base ts cs
  | [], [], _, _ => .nil
  | [], v :: cs, hl, _ => by simp at hl
  | u :: ts, [], hl, _ => by simp at hl
  | u :: ts, v :: cs, hl, h => by
    obtain ⟨u', hu, hv⟩ := h 0 v rfl
    obtain rfl : u = u' := Option.some.inj hu
    exact .cons hv (CkL.of ts cs (by simpa using hl) fun i x hx => h (i + 1) x hx)
/-- v: the parts ps, and what is not yet opened -/
def AggP (v : Value) (ps : List (Nat × (Nat → Value))) (cs : List Value) : Prop := v = .agg (catL ps ++ cs).toArray
theorem arg_str {P : Program} {w : World} {r : Reach} {base : Nat} {t : TypeId} {v : Value} {fs : Array Field} {ts : List TypeId} (hu : P.underlying t = some (.struct fs)) (hts : P.cellTypes P.depth t = some ts) (hc : P.cellsOf t = ts.length) (h : Value.okWide P w r base t v) :
    ∃ cs, AggP v [] cs ∧ CkL P w r base ts cs := by
  unfold Value.okWide at h
  rw [hu] at h
  obtain ⟨cs, rfl, hsz, ts', hts', _, hcell⟩ := h
  rw [hts] at hts'
  obtain rfl := Option.some.inj hts'
  refine ⟨cs.toList, by unfold AggP catL; simp, CkL.of ts cs.toList (by rw [Array.length_toList, hsz, hc]) fun i v hv => ?_⟩
  have hi : i < ts.length := by
    have := (List.getElem?_eq_some_iff.1 hv).1
    rw [Array.length_toList] at this; omega
  obtain ⟨u, hu2, hok⟩ := hcell i v (by rw [← Array.getElem?_toList]; exact hv)
  rw [Nat.mod_eq_of_lt hi] at hu2
  exact ⟨u, hu2, hok⟩
theorem CkL.many {P : Program} {w : World} {r : Reach} {base : Nat} {u : TypeId} {k : IntKind} {s : Nat} (hk : UK k s) (hku : P.underlying u = some (.int k)) : ∀ {n : Nat} {ts : List TypeId} {cs : List Value}, CkL P w r base (List.replicate n u ++ ts) cs →
    ∃ (F : Nat → BitVec s) (cs' : List Value), cs = (List.range n).map (fun q => VU k (F q)) ++ cs' ∧ CkL P w r base ts cs'
  | 0, ts, cs, h => ⟨fun _ => 0#s, cs, rfl, h⟩
  | n + 1, ts, cs, h => by
    rw [List.replicate_succ, List.cons_append] at h
    cases h with
    | cons h1 t =>
      obtain ⟨x, rfl, hx⟩ := cell_u hku h1
      obtain ⟨F, cs', rfl, h2⟩ := CkL.many hk hku t
      refine ⟨fun q => match q with | 0 => BitVec.ofInt s x | q + 1 => F q, cs', ?_, h2⟩
      rw [List.range_succ_eq_map, List.map_cons, List.map_map, List.cons_append]
      exact congrArg (· :: _) (congrArg (Value.int k) (has_u hk hx))
theorem AggP.part {P : Program} {w : World} {r : Reach} {base : Nat} {v : Value} {ps : List (Nat × (Nat → Value))} {cs : List Value} {u : TypeId} {k : IntKind} {s n : Nat} {ts : List TypeId} (hk : UK k s) (hku : P.underlying u = some (.int k)) (hv : AggP v ps cs) (h : CkL P w r base (List.replicate n u ++ ts) cs) :
    ∃ (F : Nat → BitVec s) (cs' : List Value), AggP v (ps ++ [(n, fun q => VU k (F q))]) cs' ∧ CkL P w r base ts cs' := by
  obtain ⟨F, cs', rfl, h2⟩ := CkL.many hk hku h
  refine ⟨F, cs', ?_, h2⟩
  unfold AggP at hv ⊢
  rw [hv]
  unfold catL
  simp [List.flatMap_append]
theorem AggP.num {P : Program} {w : World} {r : Reach} {base : Nat} {v : Value} {ps : List (Nat × (Nat → Value))} {cs : List Value} {u : TypeId} {k : IntKind} {s : Nat} {ts : List TypeId} (hk : UK k s) (hku : P.underlying u = some (.int k)) (hv : AggP v ps cs) (h : CkL P w r base (u :: ts) cs) :
    ∃ (X : BitVec s) (cs' : List Value), AggP v (ps ++ [(1, fun _ => VU k X)]) cs' ∧ CkL P w r base ts cs' := by
  obtain ⟨F, cs', h1, h2⟩ := AggP.part (n := 1) hk hku hv h
  refine ⟨F 0, cs', ?_, h2⟩
  unfold AggP at h1 ⊢
  rw [h1]
  unfold catL
  simp [List.flatMap_append, List.range_succ]
theorem AggP.int {P : Program} {w : World} {r : Reach} {base : Nat} {v : Value} {ps : List (Nat × (Nat → Value))} {cs : List Value} {u : TypeId} {k : IntKind} {ts : List TypeId} (hku : P.underlying u = some (.int k)) (hv : AggP v ps cs) (h : CkL P w r base (u :: ts) cs) :
    ∃ (x : Int) (cs' : List Value), k.has x ∧ AggP v (ps ++ [(1, fun _ => .int k x)]) cs' ∧ CkL P w r base ts cs' := by
  cases h with
  | cons h1 t =>
    obtain ⟨x, rfl, hx⟩ := cell_u hku h1
    refine ⟨x, _, hx, ?_, t⟩
    unfold AggP at hv ⊢
    rw [hv]
    unfold catL
    simp [List.flatMap_append, List.range_succ]
theorem AggP.bool {P : Program} {w : World} {r : Reach} {base : Nat} {v : Value} {ps : List (Nat × (Nat → Value))} {cs : List Value} {u : TypeId} {ts : List TypeId} (hku : P.underlying u = some .bool) (hv : AggP v ps cs) (h : CkL P w r base (u :: ts) cs) :
    ∃ (x : Bool) (cs' : List Value), AggP v (ps ++ [(1, fun _ => .bool x)]) cs' ∧ CkL P w r base ts cs' := by
  cases h with
  | cons h1 t =>
    rename_i v' cs'
    have : ∃ x, v' = .bool x := by
      unfold Cell.okWide at h1
      rw [hku] at h1
      cases v' <;> simp [Cell.ok, hku] at h1
      exact ⟨_, rfl⟩
    obtain ⟨x, rfl⟩ := this
    refine ⟨x, _, ?_, t⟩
    unfold AggP at hv ⊢
    rw [hv]
    unfold catL
    simp [List.flatMap_append, List.range_succ]
theorem AggP.fin {P : Program} {w : World} {r : Reach} {base : Nat} {v : Value} {ps : List (Nat × (Nat → Value))} {cs : List Value} (hv : AggP v ps cs) (h : CkL P w r base [] cs) : v = AG ps := by
  cases h
  unfold AggP at hv
  rw [hv, List.append_nil]; rfl

theorem PIn.or {O : Pend} {L : List Rg} {k : Nat} {r : Rg} (i : Nat) (h : r.n = 0 ∨ L[i]? = some r) (t : PIn O L) : PIn ((k, r.at) :: O) L := by
  rcases h with h | h
  · have e : r.at = fun _ => True := by
      funext w
      exact propext ⟨fun _ => trivial, fun _ j hj => absurd hj (by omega)⟩
    rw [e]
    exact .tru t
  · exact .cons i h t
theorem or_un {L : List Rg} {i : Nat} {r : Rg} (C : List Rg) (h : r.n = 0 ∨ (C ++ L)[i + C.length]? = some r) : r.n = 0 ∨ L[i]? = some r := h.imp_right fun h => flun h
theorem or_get {L : List Rg} {i : Nat} {r : Rg} (h : r.n = 0 ∨ L[i]? = some r) (C : List Rg) : r.n = 0 ∨ (C ++ L)[i + C.length]? = some r := h.imp_right fun h => flget h C
section step
variable {P : Program} {n : Nat} {K : Pend → Env → World → Prop} {l : List It} {O O' : Pend} {e : Env} {w : World} {i ty : Nat} {d : Tmp} {pos : String} {aft : Array Edge} {gd g : Option (Nat × Bool)}
variable {B : Nat} {w0 : Base} {L L' : List Rg} {D : EL}
/-- an element that leads to more: what it leads to lies in what came in -/
theorem Plan.loadLVd (C : List Rg) (hst : St B w0 (C ++ L) w) {t : TypeId} {x : Operand} {ix len cc j sz : Nat} {a : Option Addr} {X : List D.α} (dflt : D.α) (hX : LV D L ix a len cc X) (hg : wantedE n e g = true) (hx : ev n e x = .pointer (a.map fun z => ⟨z.block, z.off + j * sz, none⟩)) (hj : j < len) (hsz : D.sz = sz) (ht : aggT P t sz = true)
    (h : ∀ b r, D.side L b (X.getD j dflt) → (C ++ L)[ix + C.length]? = some r → Plan P n K l ((i, r.at) :: O) (upd e d (AG (D.E b (X.getD j dflt)))) w) : Plan P n K (⟨i, true, ⟨some d, .load t x, ty, pos, aft, gd⟩, g⟩ :: l) O e w := by
  subst hsz
  obtain ⟨hl, hc, hX⟩ := hX
  obtain ⟨offs, ms, js, os, ps, G, rw, h1, h2, h3, h4, h5⟩ := hX (by omega)
  obtain ⟨b, hb1, hb2⟩ := h2 (by omega)
  subst hb2 hb1
  obtain ⟨bb, s1, s2⟩ := h5 j _ (getD_of (by omega) dflt)
  have h1' : (C ++ L)[ix + C.length]? = some ⟨some b, offs, ms, G, rw⟩ := by rw [List.getElem?_append_right (by omega), Nat.add_sub_cancel]; exact h1
  have hx' : ev n e x = .pointer (some ⟨b, offs + (js + j * D.sz), none⟩) := by rw [hx, ← Nat.add_assoc, ← h3]; rfl
  refine Plan.loadSub hst (ix + C.length) (js + j * D.sz) hg hx' h1' rfl (cells_at hj h4) ht ?_
  have h7 := h bb _ s1 h1'
  have e1 : AG [(D.sz, fun q => G (js + j * D.sz + q))] = AG (D.E bb (X.getD j dflt)) := by
    refine AGL_congr ?_
    rw [catL_one]
    have hlen := D.hlen bb (X.getD j dflt)
    apply List.ext_getElem?
    intro q
    by_cases hq : q < D.sz
    · have hq2 : q < (catL (D.E bb (X.getD j dflt))).length := by rw [hlen]; exact hq
      rw [List.getElem?_eq_getElem hq2, List.getElem?_map, List.getElem?_range hq]
      exact congrArg some (s2 q _ (List.getElem?_eq_getElem hq2))
    · rw [List.getElem?_eq_none (by simpa using hq), List.getElem?_eq_none (by omega)]
  rw [e1]
  exact h7
/-- an int, moved right -/
theorem Plan.shrI {t yt : TypeId} {x y : Operand} {k' : IntKind} {a : Int} {c : Nat} (hg : wantedE n e g = true) (hx : ev n e x = .int .i64 a) (hy : ev n e y = .int k' (c : Int)) (hc : c ≤ 64)
    (h : Plan P n K l O (upd e d (.int .i64 (a / 2 ^ c))) w) : Plan P n K (⟨i, true, ⟨some d, .binOp .shr t x y yt, ty, pos, aft, gd⟩, g⟩ :: l) O e w :=
  Plan.val hg (fun w => run_shift (.inr rfl) hx hy (by
    unfold Op.shift
    rw [if_neg (by omega)]
    have : (a.fdiv (2 ^ (min ((c : Int)).toNat IntKind.i64.bits))) = a / 2 ^ c := by
      rw [Int.toNat_natCast, Int.fdiv_eq_ediv_of_nonneg _ (by exact Int.pow_nonneg (by omega))]
      show (a : Int) / 2 ^ (min c 64) = _
      rw [Nat.min_eq_left hc]
    simp only [this]; rfl)) h
theorem Plan.storeI (hst : St B w0 L w) {t : TypeId} {x y : Operand} {b off j m : Nat} {kd : IntKind} {F : Nat → Int} {X : Int} (k : Nat) (hg : wantedE n e g = true) (hx : ev n e x = .pointer (some ⟨b, off + j, none⟩)) (hy : ev n e y = .int kd X)
    (hL : L[k]? = some ⟨some b, off, m, fun q => .int kd (F q), true⟩)
    (hj : j < m) (ht : szT P t 1 = true) (hO : O.all (fun p => waitsO ⟨none, .store t x y, ty, pos, aft, gd⟩ p.1) = true)
    (h : ∀ w', St B w0 (L.set k ⟨some b, off, m, fun q => .int kd (upd F j X q), true⟩) w' → Plan P n K l [] e w') : Plan P n K (⟨i, false, ⟨none, .store t x y, ty, pos, aft, gd⟩, g⟩ :: l) O e w :=
  Plan.store1 hst k hg hx hy hL hj rfl ht hO fun w' h' => h w' (by
    have : (fun q => Value.int kd (upd F j X q)) = upd (fun q => Value.int kd (F q)) j (Value.int kd X) := by
      funext q; simp only [upd_at]; split <;> rfl
    rw [this]; exact h')
theorem Plan.storeBl (hst : St B w0 L w) {t : TypeId} {x y : Operand} {b off j m : Nat} {F : Nat → Bool} {X : Bool} (k : Nat) (hg : wantedE n e g = true) (hx : ev n e x = .pointer (some ⟨b, off + j, none⟩)) (hy : ev n e y = .bool X)
    (hL : L[k]? = some ⟨some b, off, m, fun q => .bool (F q), true⟩)
    (hj : j < m) (ht : szT P t 1 = true) (hO : O.all (fun p => waitsO ⟨none, .store t x y, ty, pos, aft, gd⟩ p.1) = true)
    (h : ∀ w', St B w0 (L.set k ⟨some b, off, m, fun q => .bool (upd F j X q), true⟩) w' → Plan P n K l [] e w') : Plan P n K (⟨i, false, ⟨none, .store t x y, ty, pos, aft, gd⟩, g⟩ :: l) O e w :=
  Plan.store1 hst k hg hx hy hL hj rfl ht hO fun w' h' => h w' (by
    have : (fun q => Value.bool (upd F j X q)) = upd (fun q => Value.bool (F q)) j (Value.bool X) := by
      funext q; simp only [upd_at]; split <;> rfl
    rw [this]; exact h')
/-! bytes of a string -/
theorem strL_list (X : List Byte) : (strL X).data.toList.map (fun b => Value.int .u8 (b.toNat : Int)) = X.map fun b => VU .u8 b := by
  unfold strL
  rw [strOfNums_data, List.map_map, List.map_map]
  refine List.map_congr_left fun b _ => ?_
  have h1 : (UInt8.ofNat ((b.toNat : Int)).toNat).toNat = b.toNat := by
    rw [Int.toNat_natCast]
    simp
  show Value.int .u8 _ = Value.int .u8 _
  rw [show ((UInt8.ofNat ((b.toNat : Int)).toNat).toNat : Int) = (b.toNat : Int) by rw [h1]]
theorem strL_size (X : List Byte) : (strL X).size = X.length := by
  have := congrArg List.length (strL_list X)
  rw [List.length_map, List.length_map, Array.length_toList] at this
  exact this
theorem bytesRow_cat (X : List Byte) {c : Nat} (hc : X.length ≤ c) : bytesRow (strL X) c = (catL [(c, fun q => VU .u8 (lit X q))]).toArray := by
  rw [catL_one]
  apply Array.ext'
  unfold bytesRow
  rw [Array.toList_append, Array.toList_map, strL_list, strL_size, Array.toList_replicate]
  apply List.ext_getElem?
  intro q
  show _ = ((List.range c).map fun q => VU .u8 (lit X q))[q]?
  by_cases hq : q < c
  · rw [List.getElem?_map, List.getElem?_range hq]
    by_cases h2 : q < X.length
    · rw [List.getElem?_append_left (by simpa using h2), List.getElem?_map, List.getElem?_eq_getElem h2]
      simp [lit, List.getD, h2]
    · rw [List.getElem?_append_right (by simpa using Nat.le_of_not_lt h2), List.length_map, List.getElem?_replicate, if_pos (by omega)]
      simp [lit, List.getD, h2]
  · rw [List.getElem?_eq_none (by simp; omega), List.getElem?_eq_none (by simpa using hq)]
theorem Plan.ofStr (hst : St B w0 L w) {t t' el : TypeId} {x : Operand} {X : List Byte} (hs : P.underlying t = some .string) (hd : P.underlying t' = some (.slice el)) (he : P.underlying el = some (.int .u8)) (hg : wantedE n e g = true) (hx : ev n e x = .string (strL X))
    (hO : ∀ r, EffO aft O (r :: L) O')
    (h : ∀ b cap w', B ≤ b → Ow (some ⟨b, 0, none⟩) (some b) X.length cap (lit X) X → St B w0 (⟨some b, 0, cap, fun q => VU .u8 (lit X q), true⟩ :: L) w' → Plan P n K l O' (updO e (some d) (.slice (some ⟨b, 0, none⟩) X.length cap)) w') :
    Plan P n K (⟨i, false, ⟨some d, .convert t t' x, ty, pos, aft, gd⟩, g⟩ :: l) O e w := by
  have hr := run_bytes_of_string (P := P) w t t' el (strL X) hs hd he
  have hge : X.length ≤ grownCap w (strL X).size 0 el := by
    have := grownCap_ge w (strL X).size 0 el
    rw [strL_size] at this ⊢
    omega
  rw [bytesRow_cat X hge] at hr
  generalize hc : grownCap w (strL X).size 0 el = c at hr hge
  have hsz : ((catL [(c, fun q => VU .u8 (lit X q))]).toArray).size = c := by rw [catL_one]; simp
  have hst1 := hst.drew.alloc [(c, fun q => VU .u8 (lit X q))] el
  have hnew : (w.drew.alloc (.cells (catL [(c, fun q => VU .u8 (lit X q))]).toArray el)).heap[w.heap.size]? = some (.cells (catL [(c, fun q => VU .u8 (lit X q))]).toArray el (0, 0)) := heap_alloc_new _ _
  have hst2 := hst1.freezeC (b := w.heap.size) hst.base hnew
  have hw : (w.drew.alloc (.cells (catL [(c, fun q => VU .u8 (lit X q))]).toArray el)).freeze ⟨w.heap.size, ((catL [(c, fun q => VU .u8 (lit X q))]).toArray).size, none⟩ 1 = w.drew.alloc (.cells (catL [(c, fun q => VU .u8 (lit X q))]).toArray el (((catL [(c, fun q => VU .u8 (lit X q))]).toArray).size, ((catL [(c, fun q => VU .u8 (lit X q))]).toArray).size + 1)) := by
    have hm : ∀ (a : Array Obj) (x : Obj) (f : Obj → Obj), (a.push x).modify a.size f = a.push (f x) := by
      intro a x f
      apply Array.ext
      · simp
      · intro i h1 h2
        simp only [Array.getElem_modify, Array.getElem_push]
        by_cases h : a.size = i
        · subst h; simp
        · have hi : i < a.size := by simp at h1; omega
          simp [h, hi]
    generalize (catL [(c, fun q => VU .u8 (lit X q))]).toArray = C
    unfold World.freeze
    rw [if_neg (by decide)]
    show ({ w.drew.alloc (.cells C el) with heap := (w.heap.push (.cells C el)).modify w.heap.size _ } : World) = _
    rw [hm]
    rfl
  rw [hw] at hst2
  have hOw : Ow (some ⟨w.heap.size, 0, none⟩) (some w.heap.size) X.length c (lit X) X := ⟨.inr ⟨_, rfl, rfl⟩, hge, rfl, fun q _ => rfl⟩
  refine Plan.effS hg (v := .slice (some ⟨w.heap.size, 0, none⟩) X.length c) (run_v ?_) hst2 (hO _) (fun w' hw' => h _ c w' hst.base hOw hw')
  rw [hx, hr, strL_size]
end step
end Go.LW

/-
  ENGINE X, PART 12 (own work): slices of structs that came in, opened cell by cell.
-/
namespace Go.LW
set_option linter.unusedSimpArgs false
set_option linter.unusedVariables false
set_option linter.unusedSectionVars false
open Go Go.RowKit

inductive Leaf (P : Program) (w : World) (M : Nat) : TypeId → Value → Prop
  | int {u : TypeId} {k : IntKind} {n : Int} (hu : P.underlying u = some (.int k)) (h : (Lit.int k n).wf = true) : Leaf P w M u (.int k n)
  | bool {u : TypeId} {b : Bool} (hu : P.underlying u = some .bool) : Leaf P w M u (.bool b)
  | bytes {u e : TypeId} {a : Option Addr} {len cap : Nat} {zs : List Int} (hu : P.underlying u = some (.slice e)) (he : P.underlying e = some (.int .u8)) (h : IsRow .u8 w a len cap zs) (hb : cap ≤ M) : Leaf P w M u (.slice a len cap)
inductive LfL (P : Program) (w : World) (M : Nat) : List TypeId → List Value → Prop
  | nil : LfL P w M [] []
  | cons {u : TypeId} {v : Value} {ts : List TypeId} {cs : List Value} (h : Leaf P w M u v) (t : LfL P w M ts cs) : LfL P w M (u :: ts) (v :: cs)
theorem LfL.append {P : Program} {w : World} {M : Nat} {ts ts' : List TypeId} {cs cs' : List Value} (h : LfL P w M ts cs) (h' : LfL P w M ts' cs') : LfL P w M (ts ++ ts') (cs ++ cs') := by
  induction h with
  | nil => exact h'
  | cons h _ ih => exact .cons h ih
theorem LfL.length {P : Program} {w : World} {M : Nat} {ts : List TypeId} {cs : List Value} (h : LfL P w M ts cs) : cs.length = ts.length := by
  induction h with
  | nil => rfl
  | cons _ _ ih => rw [List.length_cons, List.length_cons, ih]

def fieldsL (P : Program) (lf : TypeId → Option (List TypeId)) : List Field → Nat → Option (List TypeId)
  | [], _ => some []
  | f :: fs, o => if f.offset = o then
      match lf f.type with
      | some l => if P.cellsOf f.type = l.length then (fieldsL P lf fs (o + l.length)).map (l ++ ·) else none
      | none => none
    else none
def leafs (P : Program) : Nat → TypeId → Option (List TypeId)
  | 0, _ => none
  | n + 1, t => match P.underlying t with
    | some (.int _) => some [t]
    | some .bool => some [t]
    | some (.slice e) => match P.underlying e with
      | some (.int .u8) => if P.cellsOf e = 1 ∧ P.bytesOf e = 1 then some [t] else none
      | _ => none
    | some (.struct fs) => match fieldsL P (leafs P n) fs.toList 0 with
      | some l => if P.cellsOf t = l.length then some l else none
      | none => none
    | some (.array m e) => match leafs P n e with
      | some l => if P.cellsOf e = l.length ∧ P.cellsOf t = m * l.length then some (List.replicate m l).flatten else none
      | none => none
    | _ => none
/-- what is asked of every datum on the way down to the bytes, whose length is at most M then -/
structure KClosed {H : Type} (P : Program) (M : Nat) (K : TypeId → DataW H → Prop) : Prop where
  bytes : ∀ t e (xs ys : List (DataW H)), P.underlying t = some (.slice e) → P.bytesOf e = 1 → K t (.slice xs ys) → xs.length + ys.length ≤ M
  part : ∀ (t : TypeId) (fs : Array Field) (xs : List (DataW H)) (j : Nat) (f : Field) (x : DataW H), P.underlying t = some (.struct fs) → K t (.agg xs) → fs[j]? = some f → xs[j]? = some x → K f.type x
  arr : ∀ (t : TypeId) (k : Nat) (e : TypeId) (xs : List (DataW H)) (j : Nat) (x : DataW H), P.underlying t = some (.array k e) → K t (.agg xs) → xs[j]? = some x → K e x
  elem : ∀ (t e : TypeId) (xs ys : List (DataW H)) (j : Nat) (x : DataW H), P.underlying t = some (.slice e) → K t (.slice xs ys) → xs[j]? = some x → K e x
  spare : ∀ (t e : TypeId) (xs ys : List (DataW H)) (j : Nat) (x : DataW H), P.underlying t = some (.slice e) → K t (.slice xs ys) → ys[j]? = some x → K e x
theorem weights_all {H : Type} {P : Program} {e : TypeId} : ∀ {xs : List (DataW H)} {i : Nat} {d : DataW H}, xs[i]? = some d → ∀ n ∈ d.weights P e, n ∈ DataW.weightsAll P e xs
  | [], _, _, h, _, _ => by rw [List.getElem?_nil] at h; cases h
  | d0 :: r, 0, d, h, n, hn => by
    obtain rfl : d0 = d := Option.some.inj h
    rw [DataW.weightsAll]; exact List.mem_append_left _ hn
  | d0 :: r, i + 1, d, h, n, hn => by
    rw [DataW.weightsAll]; exact List.mem_append_right _ (weights_all (by simpa using h) n hn)
/-- the form's own reach -/
theorem reachK {H : Type} {P : Program} : KClosed P reachBytes (fun t (d : DataW H) => ∀ n ∈ d.weights P t, n ≤ reachBytes) := by
  refine ⟨fun t e xs ys hu hb h => ?_, fun t fs xs j f x hu h hf hx n hn => h n ?_, fun t k e xs j x hu h hx n hn => h n ?_, fun t e xs ys j x hu h hx n hn => h n ?_, fun t e xs ys j x hu h hx n hn => h n ?_⟩
  · have := h ((xs.length + ys.length) * P.bytesOf e) (by rw [DataW.weights, hu]; exact List.mem_cons_self)
    rw [hb, Nat.mul_one] at this
    exact this
  · rw [DataW.weights, hu]
    exact DataW.weights_mem_each (j := j) (t := f.type) (d := x) (by rw [List.getElem?_map, Array.getElem?_toList, hf]; rfl) hx n hn
  · rw [DataW.weights, hu]
    exact weights_all hx n hn
  · rw [DataW.weights, hu]
    exact List.mem_cons_of_mem _ (List.mem_append_left _ (weights_all hx n hn))
  · rw [DataW.weights, hu]
    exact List.mem_cons_of_mem _ (List.mem_append_right _ (weights_all hx n hn))
section
variable {H : Type} {enc : TypeId × Value → H} {P : Program} {w : World} {M : Nat} {held : Bool} {K : TypeId → DataW H → Prop}
theorem fieldsL_ok {lf : TypeId → Option (List TypeId)} {m : Nat} {cs : List Value} (hlf : ∀ t ts, lf t = some ts → ∀ cs x, DataW.trod enc P w 0 (fun _ => true) held m t cs = some x → K t x.1 → LfL P w M ts cs) :
    ∀ (fs : List Field) (o : Nat) (l : List TypeId), fieldsL P lf fs o = some l → (∀ f ∈ fs, ∃ x, DataW.trod enc P w 0 (fun _ => true) held m f.type ((cs.drop f.offset).take (P.cellsOf f.type)) = some x ∧ K f.type x.1) → LfL P w M l ((cs.drop o).take l.length)
  | [], o, l, h, _ => by
    obtain rfl : [] = l := by simpa [fieldsL] using h
    exact .nil
  | f :: fs, o, l, h, hx => by
    unfold fieldsL at h
    split at h
    · rename_i ho
      split at h
      · rename_i l1 hl1
        split at h
        · rename_i hc
          obtain ⟨l2, h2, rfl⟩ := Option.map_eq_some_iff.1 h
          obtain ⟨x, hx1, hx2⟩ := hx f List.mem_cons_self
          have a1 := hlf _ _ hl1 _ _ hx1 hx2
          rw [ho, hc] at a1
          have a2 := fieldsL_ok hlf fs (o + l1.length) l2 h2 (fun g hg => hx g (List.mem_cons_of_mem _ hg))
          rw [List.length_append, List.take_add, List.drop_drop]
          exact a1.append a2
        · cases h
      · cases h
    · cases h
theorem leafs_ok (hK : KClosed P M K) : ∀ (n : Nat) (t : TypeId) (ts : List TypeId), leafs P n t = some ts → ∀ (m : Nat) (cs : List Value) (x : DataW H × List MemPlace), DataW.trod enc P w 0 (fun _ => true) held m t cs = some x → K t x.1 → LfL P w M ts cs
  | 0, t, ts, h, _, _, _, _, _ => by simp [leafs] at h
  | n + 1, t, ts, h, m, cs, x, hx, hwt => by
    unfold leafs at h
    split at h
    · rename_i k hu
      obtain rfl : [t] = ts := Option.some.inj h
      obtain ⟨z, rfl, _, hw⟩ := DataW.trod_int hu hx
      exact .cons (.int hu hw) .nil
    · rename_i hu
      obtain rfl : [t] = ts := Option.some.inj h
      obtain ⟨b, rfl, _⟩ := DataW.trod_bool hu hx
      exact .cons (.bool hu) .nil
    · rename_i e hu
      split at h
      · rename_i he
        split at h
        · rename_i hc
          obtain rfl : [t] = ts := Option.some.inj h
          rcases Go.ChangeShapes.open_ints hu he hc.1 hx with ⟨rfl, _⟩ | ⟨a, l, c, zs, rfl, _, hl, hm, hz, hxx, hcell, hwz⟩
          · exact .cons (.bytes (zs := []) hu he (.inl ⟨rfl, rfl, rfl, rfl⟩) (Nat.zero_le _)) .nil
          · have hz' : zs.length = c := by simpa using hz
            rw [hxx] at hwt
            have hr := hK.bytes t e _ _ hu hc.2 hwt
            have hln : ∀ zs : List Int, (Go.ChangeShapes.lits (H := H) .u8 zs).length = zs.length := fun zs => by simp [Go.ChangeShapes.lits]
            rw [hln, hln, List.length_take, List.length_drop] at hr
            exact .cons (.bytes hu he (.inr ⟨_, rfl, hl, hm, hz', hcell, hwz⟩) (by omega)) .nil
        · cases h
      · cases h
    · rename_i fs hu
      split at h
      · rename_i l hl
        split at h
        · rename_i hc
          obtain rfl := Option.some.inj h
          obtain ⟨xs, m', rfl, hxx, hlen, hxs, hf⟩ := DataW.trod_struct hu hx
          have a := fieldsL_ok (cs := cs) (m := m') (fun t ts ht cs x hx hw => leafs_ok hK n t ts ht m' cs x hx hw) fs.toList 0 l hl (fun f hfm => by
            obtain ⟨i, hi⟩ := List.mem_iff_getElem?.1 hfm
            have hi2 : fs[i]? = some f := by rw [← Array.getElem?_toList]; exact hi
            have hlt : i < xs.length := by
              rw [hxs]
              exact (Array.getElem?_eq_some_iff.1 hi2).1
            refine ⟨xs[i], by rw [hf i f hi2]; exact List.getElem?_eq_getElem hlt, ?_⟩
            rw [hxx] at hwt
            exact hK.part t fs _ i f _ hu hwt hi2 (by rw [List.getElem?_map, List.getElem?_eq_getElem hlt]; rfl))
          rw [List.drop_zero, ← hc, ← hlen, List.take_length] at a
          exact a
        · cases h
      · cases h
    · rename_i k e hu
      split at h
      · rename_i l hl
        split at h
        · rename_i hc
          obtain rfl := Option.some.inj h
          obtain ⟨xs, m', rfl, hxx, hlen, hxs, hf⟩ := DataW.trod_array hu hx
          have go : ∀ i, i ≤ k → LfL P w M (List.replicate i l).flatten (cs.take (i * l.length)) := by
            intro i
            induction i with
            | zero => intro _; rw [Nat.zero_mul, List.take_zero]; exact .nil
            | succ i ih =>
              intro hi
              have a1 := leafs_ok hK n e l hl m' _ (xs[i]'(by omega)) (by rw [hf i (by omega)]; exact List.getElem?_eq_getElem (by omega)) (by
                rw [hxx] at hwt
                exact hK.arr t k e _ i _ hu hwt (by rw [List.getElem?_map, List.getElem?_eq_getElem (by omega)]; rfl))
              rw [hc.1] at a1
              rw [Nat.succ_mul, List.take_add, List.replicate_succ', List.flatten_append]
              simp only [List.flatten_cons, List.flatten_nil, List.append_nil]
              exact (ih (by omega)).append a1
          have a := go k (Nat.le_refl _)
          rw [← hc.2, ← hlen, List.take_length] at a
          exact a
        · cases h
      · cases h
    · cases h
end
/-- rows of structs that came in -/
structure LRows (P : Program) (w : World) (M : Nat) (ts : List TypeId) (a : Option Addr) (len cap : Nat) (p : Option Nat) (off : Nat) (G : Nat → Value) : Prop where
  at_ : (Rg.mk p off (cap * ts.length) G false).at w
  sl : SlV a p off len
  le : len ≤ cap
  big : cap ≤ maxLen
  el : ∀ i, i < cap → LfL P w M ts ((List.range ts.length).map fun j => G (i * ts.length + j))
theorem rows_open {H : Type} {enc : TypeId × Value → H} {P : Program} {w : World} {M : Nat} {K : TypeId → DataW H → Prop} (hK : KClosed P M K) {held : Bool} {t e : TypeId} {ts : List TypeId} {n : Nat} (hu : P.underlying t = some (.slice e)) (hl : leafs P n e = some ts) (hc : P.cellsOf e = ts.length) (h0 : 0 < ts.length) {a : Option Addr} {len cap : Nat} {m : Nat} {x : DataW H × List MemPlace}
    (h : DataW.trod enc P w 0 (fun _ => true) held m t [.slice a len cap] = some x) (hwt : K t x.1) : ∃ p off G, LRows P w M ts a len cap p off G := by
  rcases DataW.trod_slice hu h with ⟨h1, _⟩ | ⟨a', len', cap', elems, rest, n', rfl, h1, hxx, hb, hle, hmx, hlen, hel, hsp, _⟩
  · simp at h1
    obtain ⟨rfl, rfl, rfl⟩ := h1
    exact ⟨none, 0, fun _ => undef, fun j hj => absurd hj (by simp), fun h => absurd h (by omega), Nat.le_refl _, by decide, fun i hi => absurd hi (Nat.not_lt_zero i)⟩
  · simp at h1
    obtain ⟨rfl, rfl, rfl⟩ := h1
    rw [hc] at hel hsp
    obtain ⟨hrl, hr⟩ := hsp rfl
    have each : ∀ i, i < cap → ∃ cs, w.cells? 0 (a'.add (i * ts.length)) ts.length = some cs ∧ LfL P w M ts cs := fun i hi => by
      have : ∃ y, (w.cells? 0 (a'.add (i * ts.length)) ts.length).bind (DataW.trod enc P w 0 (fun _ => true) held n' e) = some y ∧ K e y.1 := by
        rw [hxx] at hwt
        by_cases h2 : i < len
        · refine ⟨elems[i]'(by omega), by rw [hel i h2]; exact List.getElem?_eq_getElem (by omega), hK.elem t e _ _ i _ hu hwt (by rw [List.getElem?_map, List.getElem?_eq_getElem (by omega)]; rfl)⟩
        · have := hr (i - len) (by omega)
          rw [show len + (i - len) = i by omega] at this
          refine ⟨rest[i - len]'(by omega), by rw [this]; exact List.getElem?_eq_getElem (by omega), hK.spare t e _ _ (i - len) _ hu hwt (by rw [List.getElem?_map, List.getElem?_eq_getElem (by omega)]; rfl)⟩
      obtain ⟨y, hy, hyw⟩ := this
      obtain ⟨cs, h3, h4⟩ := Option.bind_eq_some_iff.1 hy
      exact ⟨cs, h3, leafs_ok hK n e ts hl n' cs y h4 hyw⟩
    by_cases hz : cap = 0
    · subst hz
      exact ⟨none, 0, fun _ => undef, fun j hj => absurd hj (by simp), fun h => absurd h (by omega), by omega, by decide, fun i hi => absurd hi (Nat.not_lt_zero i)⟩
    have hcs : ∃ C : Nat → List Value, ∀ i, i < cap → w.cells? 0 (a'.add (i * ts.length)) ts.length = some (C i) ∧ LfL P w M ts (C i) :=
      ⟨fun i => if hi : i < cap then (each i hi).choose else [], fun i hi => by
        show w.cells? 0 _ _ = some (if hi : i < cap then (each i hi).choose else []) ∧ LfL P w M ts (if hi : i < cap then (each i hi).choose else [])
        rw [dif_pos hi]; exact (each i hi).choose_spec⟩
    obtain ⟨C, hC⟩ := hcs
    have hsp0 : a'.spot = none := by
      obtain ⟨h2, h3, h4⟩ := World.cells?_some (hC 0 (by omega)).1
      have h5 := h4 0 h0
      rw [Nat.zero_mul, Addr.add_zero', Addr.add_zero', List.getElem?_eq_getElem (by omega)] at h5
      exact cell_spot h5
    obtain ⟨b, o, s⟩ := a'
    simp only at hsp0
    subst hsp0
    have hget : ∀ i j, i < cap → j < ts.length → w.cell? ⟨b, o + (i * ts.length + j), none⟩ = (C i)[j]? := fun i j hi hj => by
      obtain ⟨h2, h3, h4⟩ := World.cells?_some (hC i hi).1
      have h5 := h4 j hj
      rw [Addr.add_mid, Addr.add_mid, Nat.add_assoc] at h5
      exact h5
    have hlC : ∀ i, i < cap → (C i).length = ts.length := fun i hi => (hC i hi).2.length
    refine ⟨some b, o, fun q => (C (q / ts.length)).getD (q % ts.length) undef, fun q hq => ⟨b, rfl, ?_⟩, fun _ => ⟨b, rfl, rfl⟩, hle, hmx, fun i hi => ?_⟩
    · have hq : q < cap * ts.length := hq
      have h2 : q / ts.length < cap := (Nat.div_lt_iff_lt_mul h0).2 hq
      have h3 : q % ts.length < ts.length := Nat.mod_lt _ h0
      have h4 := hget _ _ h2 h3
      rw [Nat.mul_comm, Nat.div_add_mod] at h4
      show w.cell? ⟨b, o + q, none⟩ = some ((C (q / ts.length)).getD (q % ts.length) undef)
      rw [h4, List.getD_eq_getElem?_getD, List.getElem?_eq_getElem (by rw [hlC _ h2]; exact h3)]
      rfl
    · have e : ((List.range ts.length).map fun j => (C ((i * ts.length + j) / ts.length)).getD ((i * ts.length + j) % ts.length) undef) = C i := by
        apply List.ext_getElem?
        intro j
        by_cases hj : j < ts.length
        · rw [List.getElem?_map, List.getElem?_range hj]
          have e1 : (i * ts.length + j) / ts.length = i := by
            rw [Nat.mul_comm, Nat.mul_add_div h0, Nat.div_eq_of_lt hj, Nat.add_zero]
          have e2 : (i * ts.length + j) % ts.length = j := by
            rw [Nat.mul_comm, Nat.mul_add_mod, Nat.mod_eq_of_lt hj]
          show some ((C ((i * ts.length + j) / ts.length)).getD ((i * ts.length + j) % ts.length) undef) = _
          rw [e1, e2, List.getD_eq_getElem?_getD, List.getElem?_eq_getElem (by rw [hlC i hi]; exact hj)]
          rfl
        · rw [List.getElem?_eq_none (by simpa using hj), List.getElem?_eq_none (by rw [hlC i hi]; omega)]
      show LfL P w M ts ((List.range ts.length).map fun j => (C ((i * ts.length + j) / ts.length)).getD ((i * ts.length + j) % ts.length) undef)
      rw [e]
      exact (hC i hi).2
theorem St.roL {B : Nat} {w0 : Base} {w : World} {L : List Rg} (h : St B w0 L w) (hr : LW.roL L) : ∀ (R : List Rg), (∀ r ∈ R, r.at w ∧ r.rw = false) → St B w0 (R ++ L) w ∧ LW.roL (R ++ L)
  | [], _ => ⟨h, hr⟩
  | r :: R, hR => by
    obtain ⟨h1, h2⟩ := h.roL hr R (fun q hq => hR q (List.mem_cons_of_mem _ hq))
    obtain ⟨h3, h4⟩ := hR r List.mem_cons_self
    obtain ⟨p, off, n, f, rw⟩ := r
    simp only at h4
    subst h4
    exact h1.roC h2 h3
/-- what opens an element out of its cells -/
def Opens (P : Program) (w : World) (M : Nat) (D : EL) (ts : List TypeId) (Q : D.α → Prop) : Prop := ∀ cells, LfL P w M ts cells → ∃ (R : List Rg) (b : D.β) (x : D.α), (∀ r ∈ R, r.at w ∧ r.rw = false) ∧ D.side R b x ∧ cells = catL (D.E b x) ∧ Q x
def EL.lifts (D : EL) : Prop := ∀ L L' b x, (∀ r ∈ L, r ∈ L') → D.side L b x → D.side L' b x
theorem LRows.lv {P : Program} {M : Nat} {B : Nat} {w0 : Base} {w : World} {L : List Rg} {D : EL} {ts : List TypeId} {a : Option Addr} {len cap : Nat} {p : Option Nat} {off : Nat} {G : Nat → Value} (h : LRows P w M ts a len cap p off G) (hst : St B w0 L w) (hr : LW.roL L) {Q : D.α → Prop} (ho : Opens P w M D ts Q) (hl : D.lifts) (hsz : D.sz = ts.length) :
    ∃ (C : List Rg) (X : List D.α), St B w0 (C ++ L) w ∧ LW.roL (C ++ L) ∧ LV D (C ++ L) 0 a len cap X ∧ ∀ (j : Nat) x, X[j]? = some x → Q x := by
  have each : ∀ i, i < cap → ∃ (R : List Rg) (b : D.β) (x : D.α), (∀ r ∈ R, r.at w ∧ r.rw = false) ∧ D.side R b x ∧ ((List.range ts.length).map fun j => G (i * ts.length + j)) = catL (D.E b x) ∧ Q x := fun i hi => ho _ (h.el i hi)
  have hle := h.le
  -- the elements, one by one
  have all : ∀ m, m ≤ len → ∃ (R : List Rg) (X : List D.α), X.length = m ∧ (∀ r ∈ R, r.at w ∧ r.rw = false) ∧ ∀ j x, X[j]? = some x → ∃ b, D.side R b x ∧ ((List.range ts.length).map fun q => G (j * ts.length + q)) = catL (D.E b x) ∧ Q x := by
    intro m
    induction m with
    | zero =>
      intro _
      refine ⟨[], [], rfl, fun r hr => ?_, fun j x hx => ?_⟩
      · cases hr
      · rw [List.getElem?_nil] at hx; cases hx
    | succ m ih =>
      intro hm
      obtain ⟨R, X, h1, h2, h3⟩ := ih (by omega)
      obtain ⟨R1, b, x, h4, h5, h6⟩ := each m (by omega)
      refine ⟨R ++ R1, X ++ [x], by rw [List.length_append, h1]; rfl, fun r hr => (List.mem_append.1 hr).elim (h2 r) (h4 r), fun j y hy => ?_⟩
      by_cases hj : j < m
      · rw [List.getElem?_append_left (by omega)] at hy
        obtain ⟨b', h7, h8⟩ := h3 j y hy
        exact ⟨b', hl _ _ _ _ (fun r hr => List.mem_append_left _ hr) h7, h8⟩
      · have hjm : j = m := by
          have := (List.getElem?_eq_some_iff.1 hy).1
          rw [List.length_append, h1, List.length_singleton] at this; omega
        subst hjm
        rw [List.getElem?_append_right (by omega), h1, Nat.sub_self] at hy
        obtain rfl : x = y := Option.some.inj hy
        exact ⟨b, hl _ _ _ _ (fun r hr => List.mem_append_right _ hr) h5, h6⟩
  obtain ⟨R, X, h1, h2, h3⟩ := all len (Nat.le_refl _)
  obtain ⟨s1, s2⟩ := hst.roL hr (⟨p, off, cap * ts.length, G, false⟩ :: R) (fun r hr => by
    rcases List.mem_cons.1 hr with rfl | hr
    · exact ⟨h.at_, rfl⟩
    · exact h2 r hr)
  refine ⟨_, X, s1, s2, ⟨h1, hle, fun _ => ⟨off, cap * ts.length, 0, off, p, G, false, rfl, h.sl, rfl, by rw [hsz, Nat.zero_add]; exact Nat.mul_le_mul_right _ hle, fun j x hx => ?_⟩⟩, fun j x hx => (h3 j x hx).choose_spec.2.2⟩
  obtain ⟨b, h7, h8, _⟩ := h3 j x hx
  refine ⟨b, hl _ _ _ _ (fun r hr => List.mem_append_left _ (List.mem_cons_of_mem _ hr)) h7, fun k v hv => ?_⟩
  rw [← h8] at hv
  have hk : k < ts.length := by
    have := (List.getElem?_eq_some_iff.1 hv).1
    simpa using this
  rw [List.getElem?_map, List.getElem?_range hk] at hv
  show G (0 + j * D.sz + k) = v
  rw [hsz, Nat.zero_add]
  exact Option.some.inj hv
/-! the parts of an element -/
theorem Bx.lift {L L' : List Rg} {i : Nat} {a : Option Addr} {len cc : Nat} {X : List Byte} (h : Bx L i a len cc X) (hs : ∀ r ∈ L, r ∈ L') : ∃ i', Bx L' i' a len cc X := by
  obtain ⟨hl, hc, h⟩ := h
  by_cases hn : 0 < len
  · obtain ⟨offs, ms, js, os, ps, G, rw, h1, h2⟩ := h hn
    obtain ⟨k, hk⟩ := List.mem_iff_getElem?.1 (hs _ (List.mem_of_getElem? h1))
    exact ⟨k, hl, hc, fun _ => ⟨offs, ms, js, os, ps, G, rw, hk, h2⟩⟩
  · exact ⟨0, hl, hc, fun h => absurd h hn⟩
theorem LfL.part {P : Program} {w : World} {M : Nat} {u : TypeId} {k : IntKind} {s : Nat} (hk : UK k s) (hku : P.underlying u = some (.int k)) : ∀ {n : Nat} {ts : List TypeId} {cs : List Value}, LfL P w M (List.replicate n u ++ ts) cs →
    ∃ (F : Nat → BitVec s) (cs' : List Value), cs = (List.range n).map (fun q => VU k (F q)) ++ cs' ∧ LfL P w M ts cs'
  | 0, ts, cs, h => ⟨fun _ => 0#s, cs, rfl, h⟩
  | n + 1, ts, cs, h => by
    rw [List.replicate_succ, List.cons_append] at h
    cases h with
    | cons h1 t =>
      rename_i v cs1
      have hx : ∃ x : BitVec s, v = VU k x := by
        cases h1 with
        | int hu hw =>
          rw [hku] at hu
          obtain rfl : k = _ := TypeDesc.int.inj (Option.some.inj hu)
          rename_i z
          refine ⟨BitVec.ofInt s z, congrArg (Value.int k) (has_u hk ?_)⟩
          unfold IntKind.has
          simpa [Lit.wf] using hw
        | bool hu => rw [hku] at hu; cases hu
        | bytes hu _ _ _ => rw [hku] at hu; cases hu
      obtain ⟨x, rfl⟩ := hx
      obtain ⟨F, cs', rfl, h2⟩ := LfL.part hk hku t
      refine ⟨fun q => match q with | 0 => x | q + 1 => F q, cs', ?_, h2⟩
      rw [List.range_succ_eq_map, List.map_cons, List.map_map, List.cons_append]
      rfl
theorem LfL.num {P : Program} {w : World} {M : Nat} {u : TypeId} {k : IntKind} {s : Nat} (hk : UK k s) (hku : P.underlying u = some (.int k)) {ts : List TypeId} {cs : List Value} (h : LfL P w M (u :: ts) cs) : ∃ (x : BitVec s) (cs' : List Value), cs = VU k x :: cs' ∧ LfL P w M ts cs' := by
  obtain ⟨F, cs', rfl, h2⟩ := LfL.part (n := 1) hk hku h
  exact ⟨F 0, cs', rfl, h2⟩
theorem LfL.int {P : Program} {w : World} {M : Nat} {u : TypeId} {k : IntKind} (hku : P.underlying u = some (.int k)) {ts : List TypeId} {cs : List Value} (h : LfL P w M (u :: ts) cs) : ∃ (x : Int) (cs' : List Value), cs = .int k x :: cs' ∧ LfL P w M ts cs' := by
  cases h with
  | cons h1 t =>
    cases h1 with
    | int hu hw =>
      rw [hku] at hu
      obtain rfl : k = _ := TypeDesc.int.inj (Option.some.inj hu)
      exact ⟨_, _, rfl, t⟩
    | bool hu => rw [hku] at hu; cases hu
    | bytes hu _ _ _ => rw [hku] at hu; cases hu
theorem LfL.bool {P : Program} {w : World} {M : Nat} {u : TypeId} (hku : P.underlying u = some .bool) {ts : List TypeId} {cs : List Value} (h : LfL P w M (u :: ts) cs) : ∃ (x : Bool) (cs' : List Value), cs = .bool x :: cs' ∧ LfL P w M ts cs' := by
  cases h with
  | cons h1 t =>
    cases h1 with
    | bool hu => exact ⟨_, _, rfl, t⟩
    | int hu hw => rw [hku] at hu; cases hu
    | bytes hu _ _ _ => rw [hku] at hu; cases hu
theorem LfL.bytes {P : Program} {w : World} {M : Nat} {u e : TypeId} (hku : P.underlying u = some (.slice e)) {ts : List TypeId} {cs : List Value} (h : LfL P w M (u :: ts) cs) :
    ∃ (r : Rg) (a : Option Addr) (cap : Nat) (X : List Byte) (i : Nat) (cs' : List Value), (r.at w ∧ r.rw = false) ∧ Bx [r] i a X.length cap X ∧ cs = .slice a X.length cap :: cs' ∧ LfL P w M ts cs' ∧ X.length ≤ M := by
  cases h with
  | cons h1 t =>
    cases h1 with
    | int hu hw => rw [hku] at hu; cases hu
    | bool hu => rw [hku] at hu; cases hu
    | bytes hu he hz hb =>
      obtain ⟨r, X, i, h2, h3, h4⟩ := hz.bx (St.init w.heap.size w (Nat.le_refl _)) roL.nil
      have hl := h4.hl
      subst hl
      exact ⟨r, _, _, X, i, _, ⟨h2.at_ r List.mem_cons_self, h3 r List.mem_cons_self⟩, h4, rfl, t, Nat.le_trans h4.2.1 hb⟩
end Go.LW

/-
  ENGINE X, PART 13 (own work): literals of arrays of arrays.
-/
namespace Go.LW
set_option linter.unusedSimpArgs false
set_option linter.unusedVariables false
set_option linter.unusedSectionVars false
open Go Go.RowKit

/-- arrays of sz, one behind the other -/
def arrs {β : Type} (sz : Nat) (z : β) (fs : List (Nat → β)) (q : Nat) : β := (fs.getD (q / sz) (fun _ => z)) (q % sz)
theorem arrs_at {β : Type} {sz : Nat} {z : β} {fs : List (Nat → β)} {i j : Nat} (hj : j < sz) : arrs sz z fs (i * sz + j) = (fs.getD i (fun _ => z)) j := by
  unfold arrs
  rw [Nat.mul_comm, Nat.mul_add_div (by omega), Nat.div_eq_of_lt hj, Nat.add_zero, Nat.mul_add_mod, Nat.mod_eq_of_lt hj]
theorem fillAA {β : Type} {V : β → Value} {sz : Nat} : ∀ (fs : List (Nat → β)) (k : Nat) (A Z : List Value), A.length = k * sz → Z.length = fs.length * sz →
    fillL (fun i => some (i * sz, sz)) (A ++ Z) ((fs.zipIdx k).map fun x => (x.2, AG [(sz, fun q => V (x.1 q))])) = some (A ++ fs.flatMap fun f => (List.range sz).map fun q => V (f q))
  | [], k, A, Z, _, hZ => by
    obtain rfl : Z = [] := List.length_eq_zero_iff.1 (by simpa using hZ)
    rfl
  | f :: fs, k, A, Z, hA, hZ => by
    have e : Z = Z.take sz ++ Z.drop sz := (List.take_append_drop sz Z).symm
    have hl : (Z.take sz).length = sz := by rw [List.length_take, hZ, List.length_cons, Nat.add_mul, Nat.one_mul]; omega
    rw [e, ← List.append_assoc, List.zipIdx_cons, List.map_cons]
    rw [fillStep (A := A) (Z := Z.take sz) (C := Z.drop sz) (Y := (List.range sz).map fun q => V (f q)) (by rw [hA, hl]) (by rw [hl]; simp) (by rw [← catL_one]; rfl)]
    have ih := fillAA (V := V) (sz := sz) fs (k + 1) (A ++ (List.range sz).map fun q => V (f q)) (Z.drop sz) (by simp [hA, Nat.add_mul]) (by
      have h2 : (f :: fs).length * sz = fs.length * sz + sz := by rw [List.length_cons, Nat.add_mul, Nat.one_mul]
      rw [List.length_drop, hZ, h2]; omega)
    rw [ih, List.flatMap_cons, List.append_assoc]
theorem arrs_list {β : Type} {V : β → Value} {sz : Nat} {z : β} (h0 : 0 < sz) : ∀ (fs : List (Nat → β)), (fs.flatMap fun f => (List.range sz).map fun q => V (f q)) = (List.range (fs.length * sz)).map fun q => V (arrs sz z fs q)
  | [] => by simp
  | f :: fs => by
    rw [List.flatMap_cons, arrs_list h0 fs (z := z), List.length_cons, Nat.succ_mul, Nat.add_comm (fs.length * sz) sz, List.range_add, List.map_append, List.map_map]
    congr 1
    · apply List.map_congr_left
      intro q hq
      have hq' := List.mem_range.1 hq
      unfold arrs
      rw [Nat.div_eq_of_lt hq', Nat.mod_eq_of_lt hq']
      rfl
    · apply List.map_congr_left
      intro q _
      show _ = V (arrs sz z (f :: fs) (sz + q))
      unfold arrs
      rw [Nat.add_div_left _ h0, Nat.add_mod_left]
      rfl
/-! short names, for claims that are long -/
theorem zca {α : Type _} {a : α} {l m : List α} : (a :: l) ++ m = a :: (l ++ m) := rfl
theorem zna {α : Type _} {l : List α} : [] ++ l = l := rfl
theorem zfc {α β : Type _} {f : α → Option β} {a : α} {l : List α} : List.filterMap f (a :: l) = match f a with | none => List.filterMap f l | some b => b :: List.filterMap f l := List.filterMap_cons
theorem zfn {α β : Type _} {f : α → Option β} : List.filterMap f [] = [] := rfl
theorem zgz {α : Type _} {a : α} {l : List α} : (a :: l)[0]? = some a := rfl
theorem zgs {α : Type _} {a : α} {l : List α} {i : Nat} : (a :: l)[i + 1]? = l[i]? := rfl
theorem zsz {α : Type _} {a b : α} {l : List α} : (a :: l).set 0 b = b :: l := rfl
theorem zss {α : Type _} {a b : α} {l : List α} {i : Nat} : (a :: l).set (i + 1) b = a :: l.set i b := rfl
theorem zer {e : Env} {s : Nat} {r : List (Nat × Value)} (t : EnvHas e r) : EnvHas e ((s, e s) :: r) := .cons rfl t
theorem zen {e : Env} : EnvHas e [] := .nil
/-! a list that is one's own or came in -/
theorem LV.in2 {D : EL} (hf : D.flat) {r : Rg} {L D' : List Rg} {i : Nat} {a : Option Addr} {len c : Nat} {X : List D.α} (h : LV D (r :: L) i a len c X) (k : Nat) (hk : D'[k]? = some r) : ∃ i', LV D (D' ++ L) i' a len c X := by
  obtain ⟨hl, hc, h⟩ := h
  by_cases hn : 0 < len
  · obtain ⟨offs, ms, js, os, ps, G, rw, h1, h2, h3, h4, h5⟩ := h hn
    have hcells : ∀ j x, X[j]? = some x → D.cells (D' ++ L) (fun k => G (js + j * D.sz + k)) x := fun j x hx => by
      obtain ⟨b, hs, hv⟩ := h5 j x hx
      exact ⟨b, hf _ _ _ _ hs, hv⟩
    cases i with
    | zero =>
      obtain rfl : r = _ := Option.some.inj h1
      exact ⟨k, hl, hc, fun _ => ⟨offs, ms, js, os, ps, G, rw, by rw [List.getElem?_append_left (List.getElem?_eq_some_iff.1 hk).1]; exact hk, h2, h3, h4, hcells⟩⟩
    | succ i =>
      exact ⟨D'.length + i, hl, hc, fun _ => ⟨offs, ms, js, os, ps, G, rw, by rw [List.getElem?_append_right (by omega), Nat.add_sub_cancel_left]; exact h1, h2, h3, h4, hcells⟩⟩
  · exact ⟨0, hl, hc, fun h => absurd h hn⟩
section step
variable {P : Program} {n : Nat} {K : Pend → Env → World → Prop} {l : List It} {O O' : Pend} {e : Env} {w : World} {i ty : Nat} {d : Tmp} {pos : String} {aft : Array Edge} {gd g : Option (Nat × Bool)}
theorem Plan.buildAA {β : Type} {V : β → Value} {t : TypeId} {parts : Array (Nat × Operand)} {len sz : Nat} {zps : List (Nat × (Nat → Value))} (fs : List (Nat → β)) (z : β) (ha : arrB P t len sz = true) (h0 : 0 < sz) (hz : zeroIs P t zps) (hzl : (zps.map (·.1)).sum = fs.length * sz) (hg : wantedE n e g = true)
    (hv : parts.toList.map (fun p => (p.1, ev n e p.2)) = (fs.zipIdx.map fun x => (x.2, AG [(sz, fun q => V (x.1 q))])))
    (h : Plan P n K l O (upd e d (AG [(fs.length * sz, fun q => V (arrs sz z fs q))])) w) : Plan P n K (⟨i, true, ⟨some d, .build t parts, ty, pos, aft, gd⟩, g⟩ :: l) O e w :=
  Plan.buildArr ha hz hg hv (by
    have := fillAA (V := V) (sz := sz) fs 0 [] (catL zps) (by simp) (by rw [catL_length]; exact hzl)
    rw [List.nil_append, List.nil_append, arrs_list h0 fs (z := z)] at this
    rw [this, catL_one]) h
/-- what all orders come to, once -/
theorem Plan.sharedF {ops : Array Oper} {K : Env → World → Prop} {a b : Tr} {σ : List (Nat × Bool)} {Q : Env → World → Prop} (h1 : ∀ e w, Q e w → Plan P n (fun _ e w => K e w) (items ops σ) [] e w)
    (h2 : (∀ e w, Q e w → Plan P n (fun _ e w => K e w) (items ops σ) [] e w) → PlanT P n ops K a O e w ∧ PlanT P n ops K b O e w) : Plan P n (fun O e w => PlanT P n ops K a O e w ∧ PlanT P n ops K b O e w) [] O e w := h2 h1
end step
/-! a call or a new row beside which nothing that was there changes -/
def Rg.ro (r : Rg) : Rg := ⟨r.p, r.off, r.n, r.f, false⟩
theorem Rg.ro_mk {p : Option Nat} {off n : Nat} {f : Nat → Value} {rw : Bool} : Rg.ro ⟨p, off, n, f, rw⟩ = ⟨p, off, n, f, false⟩ := rfl
section ro
variable {B : Nat} {w0 : Base} {w w' : World} {L : List Rg}
theorem St.asro (h : St B w0 L w) : St w.heap.size ⟨w, []⟩ (L.map Rg.ro) w := by
  refine ⟨Bel.refl _ _, Nat.le_refl _, fun r hr => ?_, fun r hr hw => ?_, ?_⟩
  · obtain ⟨s, hs, rfl⟩ := List.mem_map.1 hr
    exact h.at_ s hs
  · obtain ⟨s, hs, rfl⟩ := List.mem_map.1 hr
    exact Bool.noConfusion (show false = true from hw)
  · rw [List.pairwise_map]
    exact List.Pairwise.imp (fun _ hw => by rcases hw with hw | hw <;> exact Bool.noConfusion (show false = true from hw)) h.apart
theorem St.unro {N : List Rg} (h : St B w0 L w) (h' : St w.heap.size ⟨w, []⟩ (N ++ L.map Rg.ro) w') (hN : ∀ r ∈ N, r.rw = true) : St B w0 (N ++ L) w' := by
  refine ⟨h.below.later h'.below.toBlw h.base, Nat.le_trans h.base h'.below.size, fun r hr => ?_, fun r hr => ?_, ?_⟩
  · rcases List.mem_append.1 hr with hr | hr
    · exact h'.at_ r (List.mem_append_left _ hr)
    · exact h'.at_ (Rg.ro r) (List.mem_append_right _ (List.mem_map_of_mem hr))
  · rcases List.mem_append.1 hr with hr | hr
    · intro hw j hj
      obtain ⟨b, h1, h2, h3⟩ := h'.free r (List.mem_append_left _ hr) hw j hj
      exact ⟨b, h1, Nat.le_trans h.base h2, h3⟩
    · exact Rg.free_block (h.free r hr) fun b hb hn => h'.below.block b (Rg.at_lt (h.at_ r hr) hb hn)
  · rw [List.pairwise_append]
    have hp := List.pairwise_append.1 h'.apart
    refine ⟨hp.1, h.apart, fun r hr s hs _ => ?_⟩
    exact hp.2.2 r hr (Rg.ro s) (List.mem_map_of_mem hs) (.inl (hN r hr))
theorem hk_lt {b : Nat} {x : Obj} (h : w.heap[b]? = some x) : b < w.heap.size := (Array.getElem?_eq_some_iff.1 h).1
end ro
end Go.LW

/-
  ENGINE X, PART 14 (own work): arrays of ints, compared and as lists.
-/
namespace Go.LW
set_option linter.unusedSimpArgs false
set_option linter.unusedVariables false
set_option linter.unusedSectionVars false
open Go Go.RowKit

def eqI (n : Nat) (F G : Nat → Int) : Bool := (List.range n).all fun q => decide (F q = G q)
theorem eqI_iff {n : Nat} {F G : Nat → Int} : eqI n F G = true ↔ ∀ q, q < n → F q = G q := by
  unfold eqI; simp
/-- the first n of an array -/
def dli (n : Nat) (f : Nat → Int) : List Int := (List.range n).map f
theorem dli_length (n : Nat) (f : Nat → Int) : (dli n f).length = n := by unfold dli; simp
theorem dli_get {n : Nat} {f : Nat → Int} {j : Nat} {x : Int} (h : (dli n f)[j]? = some x) : j < n ∧ x = f j := by
  unfold dli at h
  rw [List.getElem?_map] at h
  obtain ⟨q, h1, h2⟩ := Option.map_eq_some_iff.1 h
  obtain ⟨h3, h4⟩ := List.getElem?_eq_some_iff.1 h1
  rw [List.getElem_range] at h4
  subst h4
  exact ⟨by simpa using h3, h2.symm⟩
theorem dli_getD {n : Nat} {f : Nat → Int} {j : Nat} (h : j < n) (d : Int) : (dli n f).getD j d = f j := by
  unfold dli
  rw [List.getD_eq_getElem?_getD, List.getElem?_map, List.getElem?_range h]; rfl
section run
variable {P : Program}
theorem run_eqItemsI (d : Nat) {el : TypeId} {kd : IntKind} (he : P.underlying el = some (.int kd)) (xs ys : Array Value) (F G : Nat → Int) (w : World) : ∀ is : List Nat, (∀ i ∈ is, xs[i]? = some (.int kd (F i)) ∧ ys[i]? = some (.int kd (G i))) → (Op.eqItems (d + 1) el 1 xs ys is).run P w = .ok (is.all fun q => decide (F q = G q)) w
  | [], _ => by simp [Op.eqItems]
  | i :: is, h => by
    obtain ⟨h1, h2⟩ := h i List.mem_cons_self
    have ih := run_eqItemsI d he xs ys F G w is (fun j hj => h j (List.mem_cons_of_mem _ hj))
    have px : (part el xs (i * 1)).run P w = .ok (.int kd (F i)) w := by
      simp [part, isAgg, run_underlying he, h1]
    have py : (part el ys (i * 1)).run P w = .ok (.int kd (G i)) w := by
      simp [part, isAgg, run_underlying he, h2]
    have pe : (Op.equalIn (d + 1) el (.int kd (F i)) (.int kd (G i))).run P w = .ok (decide (F i = G i)) w := by
      rw [run_equalIn_int w d el kd kd _ _ he]
      congr 1
    simp only [Op.eqItems, Sem.run_bind, px, py, pe, Result.andThen_ok, List.all_cons]
    cases hb : (decide (F i = G i))
    · simp
    · simpa using ih
theorem run_eqArrI {n : Nat} {t : TypeId} {kd : IntKind} (h : arrIB P t n kd = true) (F G : Nat → Int) (w : World) : (Op.equal t (AG [(n, fun q => .int kd (F q))]) (AG [(n, fun q => .int kd (G q))])).run P w = .ok (eqI n F G) w := by
  obtain ⟨el, i, hu, hi, hs, hk, _⟩ := arrIB_spec h
  unfold Op.equal AG
  rw [show Op.maxDepth = 9998 + 1 + 1 by rfl, run_equalIn_array w (9998 + 1) _ _ hu hi]
  have hc : P.cellsOf el = 1 := by simp [Program.cellsOf, hi, hs]
  rw [hc]
  refine run_eqItemsI 9998 hk _ _ F G w _ fun j hj => ?_
  have hj := List.mem_range.1 hj
  simp [catL_one, hj]
end run
section unroll
variable {P : Program} {n : Nat} {R : Exit → Env → World → Prop} {e : Env} {w : World}
/-- a loop's rounds, one by one -/
def UL (P : Program) (n : Nat) (c : Code) (R : Exit → Env → World → Prop) : Nat → Env → World → Prop
  | 0 => fun _ _ => False
  | m + 1 => fun e w => W P n c (thenR (UL P n c R m) R) e w
theorem UL.next {c : Code} {m : Nat} (h : W P n c (thenR (UL P n c R m) R) e w) : UL P n c R (m + 1) e w := h
theorem UL.nextT {c : Code} {m : Nat} (h : W P n c (thenR (UL P n c R m) R) e w) : thenR (UL P n c R (m + 1)) R .normal e w := h
theorem W.unroll {c : Code} (m : Nat) (h : UL P n c R m e w) : W P n (.loop c) R e w :=
  W.loop (fun m e w => UL P n c R m e w) m h fun m e w hI => by
    cases m with
    | zero => exact hI.elim
    | succ m => exact W.mono hI fun x e w hx => by cases x <;> first | exact ⟨m, Nat.lt_succ_self m, hx⟩ | exact hx
end unroll
section step
variable {P : Program} {n : Nat} {K : Pend → Env → World → Prop} {l : List It} {O O' : Pend} {e : Env} {w : World} {i ty : Nat} {d : Tmp} {pos : String} {aft : Array Edge} {gd g : Option (Nat × Bool)}
theorem Plan.eqArrIV {t yt : TypeId} {x y : Operand} {m : Nat} {kd : IntKind} {F G : Nat → Int} {b : Bool} (ha : arrIB P t m kd = true) (hg : wantedE n e g = true) (hx : ev n e x = AG [(m, fun q => .int kd (F q))]) (hy : ev n e y = AG [(m, fun q => .int kd (G q))]) (hb : eqI m F G = b)
    (h : Plan P n K l O (upd e d (.bool b)) w) : Plan P n K (⟨i, true, ⟨some d, .binOp .eql t x y yt, ty, pos, aft, gd⟩, g⟩ :: l) O e w :=
  Plan.val hg (fun w => run_v (by
    rw [hx, hy, Sem.run_bind]
    have h1 : (eqGuard .eql t x y (AG [(m, fun q => .int kd (F q))]) (AG [(m, fun q => .int kd (G q))])).run P w = .ok () w := run_eqGuard (arrIB_spec ha).choose_spec.choose_spec.2.2.2.2 w
    rw [h1]
    simp only [Result.andThen_ok]
    have h2 := run_eqArrI ha F G w
    rw [hb] at h2
    unfold AG at h2 ⊢
    simp only [binOp, Sem.run_bind, h2, Result.andThen_ok, Sem.run_pure])) h
theorem Plan.neArrIV {t yt : TypeId} {x y : Operand} {m : Nat} {kd : IntKind} {F G : Nat → Int} {b : Bool} (ha : arrIB P t m kd = true) (hg : wantedE n e g = true) (hx : ev n e x = AG [(m, fun q => .int kd (F q))]) (hy : ev n e y = AG [(m, fun q => .int kd (G q))]) (hb : eqI m F G = b)
    (h : Plan P n K l O (upd e d (.bool (!b))) w) : Plan P n K (⟨i, true, ⟨some d, .binOp .neq t x y yt, ty, pos, aft, gd⟩, g⟩ :: l) O e w :=
  Plan.val hg (fun w => run_v (by
    rw [hx, hy, Sem.run_bind]
    have h1 : (eqGuard .neq t x y (AG [(m, fun q => .int kd (F q))]) (AG [(m, fun q => .int kd (G q))])).run P w = .ok () w := run_eqGuard (arrIB_spec ha).choose_spec.choose_spec.2.2.2.2 w
    rw [h1]
    simp only [Result.andThen_ok]
    have h2 := run_eqArrI ha F G w
    rw [hb] at h2
    unfold AG at h2 ⊢
    simp only [binOp, Sem.run_bind, h2, Result.andThen_ok, Sem.run_pure])) h
end step
end Go.LW

/-
  ENGINE X, PART 15 (own work): bytes compared; elements that lead to bytes which stay (a pool that grows): the frame grows.
-/
namespace Go.LW
set_option linter.unusedSimpArgs false
set_option linter.unusedVariables false
set_option linter.unusedSectionVars false
open Go Go.RowKit

/-! bytes compared -/
def cmpI : List Byte → List Byte → Int
  | [], [] => 0
  | [], _ :: _ => -1
  | _ :: _, [] => 1
  | a :: X, b :: Y => if a.toNat < b.toNat then -1 else if b.toNat < a.toNat then 1 else cmpI X Y
def ltL : List Byte → List Byte → Bool
  | _, [] => false
  | [], _ :: _ => true
  | a :: X, b :: Y => if a.toNat < b.toNat then true else if b.toNat < a.toNat then false else ltL X Y
def u8L (X : List Byte) : List UInt8 := X.map fun b => UInt8.ofNat b.toNat
theorem u8_toNat (a : Byte) : (UInt8.ofNat a.toNat).toNat = a.toNat := by
  have := a.isLt
  rw [UInt8.toNat_ofNat']; omega
theorem u8_lt (a b : Byte) : (UInt8.ofNat a.toNat < UInt8.ofNat b.toNat) ↔ a.toNat < b.toNat := by
  rw [UInt8.lt_iff_toNat_lt, u8_toNat, u8_toNat]
theorem u8_beq (a b : Byte) : (UInt8.ofNat a.toNat == UInt8.ofNat b.toNat) = decide (a.toNat = b.toNat) := by
  rw [Bool.eq_iff_iff, beq_iff_eq, decide_eq_true_iff, ← UInt8.toNat_inj, u8_toNat, u8_toNat]
theorem cmpI_eq : ∀ X Y : List Byte, Lib.compareBytes (u8L X) (u8L Y) = cmpI X Y
  | [], [] => rfl
  | [], _ :: _ => rfl
  | _ :: _, [] => rfl
  | a :: X, b :: Y => by
    show (if UInt8.ofNat a.toNat < UInt8.ofNat b.toNat then (-1 : Int) else if UInt8.ofNat b.toNat < UInt8.ofNat a.toNat then 1 else Lib.compareBytes (u8L X) (u8L Y)) = _
    rw [cmpI_eq X Y]
    simp only [u8_lt]
    rw [cmpI]
theorem ltL_eq : ∀ X Y : List Byte, Op.bytesLess (u8L X) (u8L Y) = ltL X Y
  | [], [] => rfl
  | [], _ :: _ => rfl
  | _ :: _, [] => rfl
  | a :: X, b :: Y => by
    show (decide (UInt8.ofNat a.toNat < UInt8.ofNat b.toNat) || (UInt8.ofNat a.toNat == UInt8.ofNat b.toNat && Op.bytesLess (u8L X) (u8L Y))) = _
    rw [ltL_eq X Y, u8_beq, ltL]
    simp only [u8_lt]
    generalize ltL X Y = z
    by_cases h1 : a.toNat < b.toNat
    · simp [h1]
    · by_cases h2 : b.toNat < a.toNat
      · simp [h1, h2]; omega
      · have h3 : a.toNat = b.toNat := by omega
        simp [h3]
theorem strL_data (X : List Byte) : (strL X).data.toList = u8L X := by
  unfold strL u8L
  rw [strOfNums_data, List.map_map]
  exact List.map_congr_left fun b _ => by simp
theorem strL_toList (X : List Byte) : (strL X).toList = u8L X := by
  rw [ByteArray.toList_eq, strL_data]

section
variable {P : Program} {n : Nat} {K : Pend → Env → World → Prop} {l : List It} {O O' : Pend} {e : Env} {w : World} {i ty : Nat} {d : Tmp} {pos : String} {aft : Array Edge} {gd g : Option (Nat × Bool)}
variable {B : Nat} {w0 : Base} {L L' : List Rg}
theorem Plan.ltStrV {t yt : TypeId} {x y : Operand} {X Y : List Byte} {v : Bool} (hg : wantedE n e g = true) (hx : ev n e x = .string (strL X)) (hy : ev n e y = .string (strL Y)) (hv : ltL X Y = v)
    (h : Plan P n K l O (upd e d (.bool v)) w) : Plan P n K (⟨i, true, ⟨some d, .binOp .lss t x y yt, ty, pos, aft, gd⟩, g⟩ :: l) O e w := Plan.val hg (fun w => by
    refine run_v ?_
    rw [hx, hy]
    have hq : (eqGuard .lss t x y (.string (strL X)) (.string (strL Y))).run P w = .ok () w := rfl
    rw [Sem.run_bind, hq]
    show ((binOp .lss t (.string (strL X)) (.string (strL Y))).run P w) = _
    rw [binOp_string_lss, strL_toList, strL_toList, ltL_eq, hv]; rfl) h
theorem Plan.slVp {t : TypeId} {x : Operand} {ix len cap lo hi : Nat} {a : Option Addr} {X : List Byte} {low high : Option Operand} {LP : List Rg} (hX : Bx L ix a len cap X) (hP : ∃ i, Bx LP i a len cap X) (ha : slB P t 1 = true) (hg : wantedE n e g = true) (hx : ev n e x = .slice a len cap)
    (hlo : match low with | some y => ∃ k, ev n e y = .int k (lo : Int) | none => lo = 0) (hhi : match high with | some y => ∃ k, ev n e y = .int k (hi : Int) | none => hi = len) (hb : lo ≤ hi ∧ hi ≤ len)
    (h : ∀ a' c', Bx L ix a' (seg X lo hi).length c' (seg X lo hi) → (∃ i, Bx LP i a' (seg X lo hi).length c' (seg X lo hi)) → Plan P n K l O (upd e d (.slice a' (seg X lo hi).length c')) w) : Plan P n K (⟨i, true, ⟨some d, .slice t x low high none, ty, pos, aft, gd⟩, g⟩ :: l) O e w := by
  have hle := hX.le
  obtain ⟨j, hP⟩ := hP
  refine Plan.slSl ha hg hx hlo hhi ⟨hb.1, by omega⟩ ?_
  have e : hi - lo = (seg X lo hi).length := (seg_length (by rw [hX.hl]; exact hb.2)).symm
  have h1 := hX.seg hb
  have h2 := hP.seg hb
  rw [e] at h1 h2 ⊢
  exact h _ _ h1 ⟨_, h2⟩
theorem run_bytesOf (hst : St B w0 L w) {ix len c : Nat} {a : Option Addr} {X : List Byte} (hX : Bx L ix a len c X) : (Extern.Bytes.bytesOf (.slice a len c)).run P w = .ok (strL X) w := by
  obtain ⟨hl, hc, h0⟩ := hX
  by_cases hn : 0 < len
  · obtain ⟨offs, ms, js, os, ps, G, rw, h1, h2, h3, h4, h6⟩ := h0 hn
    have hr := hst.mem h1
    obtain ⟨b, hp, ha⟩ := h2 hn
    subst ha
    have hl2 := Lib.run_loadBytesX (P := P) w (X.map fun b => (b.toNat : Int)) ⟨b, os, none⟩ .empty (fun q x hq => by
      have hql : q < X.length := by
        have := (List.getElem?_eq_some_iff.1 hq).1
        simpa using this
      have e : (⟨b, os, none⟩ : Addr).add q = ⟨b, os + q, none⟩ := by unfold Addr.add; split <;> simp_all
      obtain ⟨b', hp', hc'⟩ := hr (js + q) (show js + q < ms by omega)
      simp only at hp'
      rw [hp] at hp'
      obtain rfl := Option.some.inj hp'
      rw [e, h3, Nat.add_assoc, hc']
      rw [List.getElem?_map, List.getElem?_eq_getElem hql] at hq
      show some (VU .u8 (G (js + q))) = _
      rw [← h6 q (by omega)]
      unfold lit
      rw [List.getD_eq_getElem?_getD, List.getElem?_eq_getElem hql]
      exact congrArg (fun z => some (Value.int .u8 z)) (Option.some.inj hq))
    rw [List.length_map, hl] at hl2
    show (Extern.Bytes.loadBytes ⟨b, os, none⟩ len .empty).run P w = _
    rw [hl2]
    have e2 : (⟨ByteArray.empty.data ++ (Lib.bytesOf (X.map fun b => (b.toNat : Int))).toArray⟩ : ByteArray) = strL X := by
      apply ByteArray.ext
      show (#[] : Array UInt8) ++ (Lib.bytesOf (X.map fun b => (b.toNat : Int))).toArray = _
      rw [Array.empty_append]
      rfl
    rw [e2]
  · obtain rfl : len = 0 := by omega
    obtain rfl := List.length_eq_zero_iff.1 hl
    cases a <;> rfl
theorem u8_cmp (X Y : List Byte) : Extern.BytealgCompare.cmp (strL X) (strL Y) = cmpI X Y := by
  rw [Lib.cmp_eq, strL_data, strL_data, cmpI_eq]
theorem Plan.cmpB (hst : St B w0 L w) {f : FuncId} {fn : Func} {x y : Operand} {at' : Array TypeId} {i1 l1 c1 i2 l2 c2 : Nat} {a1 a2 : Option Addr} {X Y : List Byte} (hf : P.funcs[f]? = some fn) (hname : (fn.name == "runtime.NumGoroutine") = false) (hb : fn.body.isNone = true) (hn : Extern.findNext fn = none) (he : Extern.find fn = some Extern.BytealgCompare.compare)
    (hX : Bx L i1 a1 l1 c1 X) (hY : Bx L i2 a2 l2 c2 Y) (hg : wantedE n e g = true) (hx : ev n e x = .slice a1 l1 c1) (hy : ev n e y = .slice a2 l2 c2)
    (h : Plan P n K l O (upd e d (.int .i64 (cmpI X Y))) w) :
    Plan P n K (⟨i, false, ⟨some d, .call ⟨.value (.func f), #[x, y], at'⟩, ty, pos, aft, gd⟩, g⟩ :: l) O e w := by
  refine Plan.eff hg ?_
  have hρ : ev n e (.func f) = .func (.func f) #[] #[] := rfl
  have h1 := run_callFunc_extern (P := P) hf hname hb hn he #[.slice a1 l1 c1, .slice a2 l2 c2] w
  have h3 : (Extern.BytealgCompare.compare #[.slice a1 l1 c1, .slice a2 l2 c2]).run P w = .ok (.int .i64 (cmpI X Y)) w := by
    change Sem.run P (do pure (goInt (Extern.BytealgCompare.cmp (← Extern.Bytes.bytesOf (.slice a1 l1 c1)) (← Extern.Bytes.bytesOf (.slice a2 l2 c2))))) w = _
    simp only [Sem.run_bind, run_bytesOf hst hX, run_bytesOf hst hY, Result.andThen, Sem.run_pure]
    rw [u8_cmp]; rfl
  rw [h3] at h1
  simp only [execOp, resolve, hρ, Deferred.ofValue, Sem.run_bind, Sem.run_pure, Result.andThen, invoke]
  have h2 : (#[] ++ Array.map (ev n e) #[x, y] ++ #[] : Array Value) = #[.slice a1 l1 c1, .slice a2 l2 c2] := by simp [hx, hy]
  rw [h2, h1]
  exact .inl ⟨fun p _ hp => hp, h⟩
end

/-! elements whose bytes lie in a pool -/
@[reducible] def EL.at (D : EL) (P : List Rg) : EL := { D with side := fun _ b x => D.side P b x, mono := fun _ _ _ _ h => h }
theorem EL.at_flat {D : EL} {P : List Rg} : (D.at P).flat := fun _ _ _ _ h => h
theorem EL.cells.grow {D : EL} {P P' L L' : List Rg} {G : Nat → Value} {x : D.α} (hl : D.lifts) (hp : ∀ r ∈ P, r ∈ P') (h : (D.at P).cells L G x) : (D.at P').cells L' G x := by
  obtain ⟨b, h1, h2⟩ := h
  exact ⟨b, hl _ _ _ _ hp h1, h2⟩
theorem LV.grow {D : EL} {P P' L : List Rg} {i : Nat} {a : Option Addr} {len cc : Nat} {X : List D.α} (hl : D.lifts) (hp : ∀ r ∈ P, r ∈ P') (h : LV (D.at P) L i a len cc X) : LV (D.at P') L i a len cc X := by
  obtain ⟨h1, h2, h3⟩ := h
  refine ⟨h1, h2, fun hn => ?_⟩
  obtain ⟨offs, ms, js, os, ps, G, rw, q1, q2, q3, q4, q5⟩ := h3 hn
  exact ⟨offs, ms, js, os, ps, G, rw, q1, q2, q3, q4, fun j x hx => (q5 j x hx).grow hl hp⟩
theorem LO.grow {D : EL} {P P' L L' : List Rg} {a : Option Addr} {pb : Option Nat} {len cap : Nat} {F : Nat → Value} {X : List D.α} (hl : D.lifts) (hp : ∀ r ∈ P, r ∈ P') (h : LO (D.at P) L a pb len cap F X) : LO (D.at P') L' a pb len cap F X :=
  ⟨h.ho, h.hc, h.hl, fun j x hx => (h.hF j x hx).grow hl hp, h.hK⟩
theorem LV.ofAt {D : EL} {L : List Rg} {i : Nat} {a : Option Addr} {len cc : Nat} {X : List D.α} (h : LV D L i a len cc X) : LV (D.at L) L i a len cc X := h

/-! the frame grows -/
def Fr2 (A AP B BP : List Rg) : Prop := ∃ C, B = C ++ A ∧ BP = C ++ AP
theorem Fr2.refl (A AP : List Rg) : Fr2 A AP A AP := ⟨[], rfl, rfl⟩
theorem Fr2.step {A AP B BP B' BP' C : List Rg} (h : Fr2 A AP B BP) (h1 : B' = C ++ B) (h2 : BP' = C ++ BP) : Fr2 A AP B' BP' := by
  obtain ⟨C0, rfl, rfl⟩ := h
  exact ⟨C ++ C0, by rw [h1, List.append_assoc], by rw [h2, List.append_assoc]⟩
theorem Fr2.get {A AP B BP : List Rg} (h : Fr2 A AP B BP) {i : Nat} {r : Rg} (hA : A[i]? = some r) : ∃ j : Nat, B[j]? = some r := by
  obtain ⟨C, rfl, _⟩ := h
  exact ⟨i + C.length, by rw [List.getElem?_append_right (by omega), Nat.add_sub_cancel]; exact hA⟩
theorem frMemGrow {A B C : List Rg} (h : ∀ r ∈ A, r ∈ B) : ∀ r ∈ C ++ A, r ∈ C ++ B := fun r hr => (List.mem_append.1 hr).elim (List.mem_append_left _) fun h' => List.mem_append_right _ (h r h')
theorem St.re {B : Nat} {w0 : Base} {w : World} {N L M : List Rg} (hL : L = M) (h : St B w0 (N ++ M) w) : St B w0 (N ++ L) w := hL ▸ h
theorem St.pool {B : Nat} {w0 : Base} {w : World} {N R C L : List Rg} (h : St B w0 (N ++ (C ++ (R ++ L))) w) : St B w0 (N ++ (R ++ (C ++ L))) w :=
  h.perm (List.Perm.append_left N (by rw [← List.append_assoc, ← List.append_assoc]; exact List.Perm.append_right L List.perm_append_comm))
theorem St.dropC {B : Nat} {w0 : Base} {w : World} {N C L : List Rg} (h : St B w0 (N ++ (C ++ L)) w) : St B w0 (N ++ L) w :=
  h.sub (List.Sublist.append (List.Sublist.refl N) (List.sublist_append_right C L))
section
variable {P : Program} {n : Nat} {K : Pend → Env → World → Prop} {l : List It} {O O' : Pend} {e : Env} {w : World} {i ty : Nat} {d : Tmp} {pos : String} {aft : Array Edge} {gd g : Option (Nat × Bool)}
variable {B : Nat} {w0 : Base} {L L' : List Rg} {D : EL}
/-- the address of a field of an element, and what lies there -/
theorem Plan.fieldLV (_ : St B w0 L w) {t : TypeId} {x : Operand} {f ix len cc j sz : Nat} {a : Option Addr} {X : List D.α} (off : Nat) (hX : LV D L ix a len cc X) (hj : j < len) (hf : fieldB P t f off = true) (hg : wantedE n e g = true) (hx : ev n e x = .pointer (a.map fun z => ⟨z.block, z.off + j * sz, none⟩))
    (h : Plan P n K l O (upd e d (.pointer (a.map fun z => ⟨z.block, z.off + j * sz + off, none⟩))) w) : Plan P n K (⟨i, true, ⟨some d, .fieldAddr t x f, ty, pos, aft, gd⟩, g⟩ :: l) O e w := by
  obtain ⟨hl, hc, hX⟩ := hX
  obtain ⟨offs, ms, js, os, ps, G, rw, h1, h2, h3, h4, h5⟩ := hX (by omega)
  obtain ⟨b, hb1, hb2⟩ := h2 (by omega)
  subst hb2
  exact Plan.fieldAddr off hf hg hx h
theorem Plan.loadLVf (hst : St B w0 L w) {t : TypeId} {x : Operand} {ix len cc j sz off : Nat} {a : Option Addr} {X : List D.α} (dflt : D.α) (v : D.β → D.α → Value) (hX : LV D L ix a len cc X) (hg : wantedE n e g = true) (hx : ev n e x = .pointer (a.map fun z => ⟨z.block, z.off + j * sz + off, none⟩)) (hj : j < len) (hsz : D.sz = sz) (ho : off < sz) (hv : ∀ b y, (catL (D.E b y))[off]? = some (v b y)) (ht : scalarT P t = true)
    (h : ∀ b r, D.side L b (X.getD j dflt) → L[ix]? = some r → Plan P n K l ((i, r.at) :: O) (upd e d (v b (X.getD j dflt))) w) : Plan P n K (⟨i, true, ⟨some d, .load t x, ty, pos, aft, gd⟩, g⟩ :: l) O e w := by
  subst hsz
  obtain ⟨hl, hc, hX⟩ := hX
  obtain ⟨offs, ms, js, os, ps, G, rw, h1, h2, h3, h4, h5⟩ := hX (by omega)
  obtain ⟨b, hb1, hb2⟩ := h2 (by omega)
  subst hb2 hb1
  obtain ⟨bb, s1, s2⟩ := h5 j _ (getD_of (by omega) dflt)
  have hx' : ev n e x = .pointer (some ⟨b, offs + (js + j * D.sz + off), none⟩) := by rw [hx, ← Nat.add_assoc, ← Nat.add_assoc, ← h3]; rfl
  have h7 := h bb _ s1 h1
  have e1 : G (js + j * D.sz + off) = _ := s2 off _ (hv bb _)
  refine Plan.load1 hst ix hg hx' h1 (by have := cells_at hj h4; omega) ht ?_
  rw [e1]
  exact h7
end
end Go.LW

/-
  ENGINE X, PART 16 (own work): own slices of bytes with zeros behind their end.
-/
namespace Go.LW
set_option linter.unusedSimpArgs false
set_option linter.unusedVariables false
set_option linter.unusedSectionVars false
open Go Go.RowKit

def OwZ (a : Option Addr) (pb : Option Nat) (len cap : Nat) (F : Nat → Byte) (X : List Byte) : Prop := Ow a pb len cap F X ∧ ∀ q, len ≤ q → q < cap → F q = 0#8
theorem Bx.inSt {B : Nat} {w0 : Base} {w : World} {L : List Rg} (_ : St B w0 L w) {r : Rg} {i : Nat} {a : Option Addr} {n c : Nat} {X : List Byte} (h : Bx [r] i a n c X) (hr : r ∈ L) : ∃ i', Bx L i' a n c X := h.lift (fun _ hq => (List.mem_singleton.1 hq) ▸ hr)
section
variable {P : Program} {n : Nat} {K : Pend → Env → World → Prop} {l : List It} {O O' : Pend} {e : Env} {w : World} {i ty : Nat} {d : Tmp} {pos : String} {aft : Array Edge} {gd g : Option (Nat × Bool)}
variable {B : Nat} {w0 : Base} {L L' : List Rg}
theorem Plan.appendOZ (hst : St B w0 L w) {t t' sz : TypeId} {x y : Operand} {len cap m cy iy : Nat} {a ay : Option Addr} {pb : Option Nat} {F : Nat → Byte} {X Y : List Byte} (k : Nat) (hO : OwZ a pb len cap F X) (he : elD P t = some (1, 1, some (VU .u8 0#8))) (ht' : slB P t' sz = true) (hg : wantedE n e g = true)
    (hx : ev n e x = .slice a len cap) (hy : ev n e y = .slice ay m cy) (hL : L[k]? = some ⟨pb, 0, cap, fun q => VU .u8 (F q), true⟩) (hY : Bx L iy ay m cy Y) (hb : len + m ≤ 140737488355328)
    (hw : ∀ r, EffO aft O (L.set k r) O')
    (h : ∀ a' pb' cap' (F' : Nat → Byte) w', OwZ a' pb' (X ++ Y).length cap' F' (X ++ Y) → cap ≤ cap' → St B w0 (L.set k ⟨pb', 0, cap', fun q => VU .u8 (F' q), true⟩) w' → Plan P n K l O' (updO e (some d) (.slice a' (X ++ Y).length cap')) w') :
    Plan P n K (⟨i, false, ⟨some d, .call ⟨.builtin .append, #[x, y], #[t, t']⟩, ty, pos, aft, gd⟩, g⟩ :: l) O e w := by
  obtain ⟨hOw, hz⟩ := hO
  have hX := hOw.hl
  have hYl := hY.hl
  have hc := hOw.hc
  have hk : k < L.length := (List.getElem?_eq_some_iff.1 hL).1
  obtain ⟨w', a', pb', cap', ip, r, hr, ho', ⟨hcap, hcc⟩, hst', hcase⟩ := run_appendK (P := P) (ty := ty) (s := 1) (by' := 1) (z := VU .u8 0#8) (zf := fun _ => VU .u8 0#8) (F := fun q => VU .u8 (F q)) (g := fun q => VU .u8 (lit Y q)) (pb := pb) (k := k) (len := len) (cap := cap) hst (elB_of he) rfl (fun q hq => by
      have h0 : q = 0 := by omega
      subst h0; rfl) (by rw [Nat.mul_one]; exact hL) hOw.ho (Src.ofBs hst ht' (hY.bs' k hL)) hOw.hc (by omega) (by omega)
  have hst2 := St.instead' hk hst'
  have hl : (X ++ Y).length = len + m := by rw [List.length_append, hX, hYl]
  have hF' : (fun q => if ip = true ∨ q < (len + m) * 1 then spl (fun q => VU .u8 (F q)) (len * 1) (m * 1) (fun q => VU .u8 (lit Y q)) q else VU .u8 0#8) = fun q => VU .u8 (if ip = true ∨ q < len + m then spl F len m (lit Y) q else 0#8) := by
    funext q
    simp only [Nat.mul_one]
    split
    · unfold spl; split <;> rfl
    · rfl
  rw [hF', Nat.mul_one] at hst2
  refine Plan.effS hg (w' := w') (v := .slice a' (X ++ Y).length cap') (run_blt2 fun c => ?_) hst2 (hw _) fun w' hw' => h a' pb' cap' _ w' ⟨⟨ho', by omega, rfl, fun q hq => ?_⟩, fun q hq hq2 => ?_⟩ hcc hw'
  · rw [hx, hy]
    simp only [builtin, Sem.run_bind, hr, hl]
    rfl
  · show _ = if _ then _ else _
    rw [if_pos (.inr (by omega)), lit_app]
    by_cases h1 : q < X.length
    · rw [if_pos h1, spl_out _ _ _ _ _ (by omega)]; exact hOw.hF q (by omega)
    · rw [if_neg h1, spl_in _ _ _ _ _ (by omega), hX]
  · show (if _ then _ else _) = _
    split
    · rename_i h1
      rcases h1 with h1 | h1
      · rw [spl_out _ _ _ _ _ (by omega)]
        refine hz q (by omega) ?_
        rcases hcase with ⟨_, _, _, h5⟩ | ⟨h5, _⟩
        · omega
        · rw [h5] at h1; cases h1
      · omega
    · rfl
/-- to the end of the room -/
theorem Plan.slZ {t : TypeId} {x : Operand} {a : Option Addr} {pb : Option Nat} {len cap hi : Nat} {F : Nat → Byte} {X : List Byte} {low high : Option Operand} (hO : OwZ a pb len cap F X) (ha : slB P t 1 = true) (hg : wantedE n e g = true) (hx : ev n e x = .slice a len cap)
    (hlo : match low with | some y => ∃ k, ev n e y = .int k ((0 : Nat) : Int) | none => (0 : Nat) = 0) (hhi : match high with | some y => ∃ k, ev n e y = .int k (hi : Int) | none => hi = len) (hb : len ≤ hi ∧ hi ≤ cap)
    (h : Ow a pb (X ++ List.replicate (hi - len) 0#8).length cap F (X ++ List.replicate (hi - len) 0#8) → Plan P n K l O (upd e d (.slice a (X ++ List.replicate (hi - len) 0#8).length cap)) w) : Plan P n K (⟨i, true, ⟨some d, .slice t x low high none, ty, pos, aft, gd⟩, g⟩ :: l) O e w := by
  obtain ⟨hOw, hz⟩ := hO
  have hl : (X ++ List.replicate (hi - len) 0#8).length = hi := by rw [List.length_append, List.length_replicate, hOw.hl]; omega
  refine Plan.slSl (lo := 0) (hi := hi) ha hg hx hlo hhi ⟨Nat.zero_le _, hb.2⟩ ?_
  have e1 : (if cap = 0 then a else a.map (·.add (0 * 1))) = a := by
    split
    · rfl
    · cases a with
      | none => rfl
      | some z => simp [Addr.add]
  rw [e1, Nat.sub_zero, Nat.sub_zero]
  have h2 := h ⟨hOw.ho, by omega, rfl, fun q hq => ?_⟩
  · rw [hl] at h2; exact h2
  · rw [lit_app]
    by_cases h1 : q < X.length
    · rw [if_pos h1]; exact hOw.hF q (by rw [← hOw.hl]; exact h1)
    · rw [if_neg h1, hz q (by rw [← hOw.hl]; omega) (by omega)]
      unfold lit
      rw [List.getD_eq_getElem?_getD, List.getElem?_replicate]
      split <;> rfl
/-- append; the slice as it was is a view from then on -/
theorem Plan.appendOK (hst : St B w0 L w) {t t' sz : TypeId} {x y : Operand} {len cap m cy iy : Nat} {a ay : Option Addr} {pb : Option Nat} {F : Nat → Byte} {X Y : List Byte} (k : Nat) (hOw : Ow a pb len cap F X) (he : elD P t = some (1, 1, some (VU .u8 0#8))) (ht' : slB P t' sz = true) (hg : wantedE n e g = true)
    (hx : ev n e x = .slice a len cap) (hy : ev n e y = .slice ay m cy) (hL : L[k]? = some ⟨pb, 0, cap, fun q => VU .u8 (F q), true⟩) (hY : Bx L iy ay m cy Y) (hb : len + m ≤ 140737488355328)
    (hw : ∀ q r, EffO aft O (q :: L.set k r) O')
    (h : ∀ a' pb' cap' (F' : Nat → Byte) r iz w', Ow a' pb' (X ++ Y).length cap' F' (X ++ Y) → (iz = 0 ∨ iz = k + 1) → Bx (⟨pb', 0, cap', fun q => VU .u8 (F' q), true⟩ :: L.set k r) iz a len cap X → St B w0 (⟨pb', 0, cap', fun q => VU .u8 (F' q), true⟩ :: L.set k r) w' → Plan P n K l O' (updO e (some d) (.slice a' (X ++ Y).length cap')) w') :
    Plan P n K (⟨i, false, ⟨some d, .call ⟨.builtin .append, #[x, y], #[t, t']⟩, ty, pos, aft, gd⟩, g⟩ :: l) O e w := by
  have hX := hOw.hl
  have hYl := hY.hl
  have hc := hOw.hc
  have hk : k < L.length := (List.getElem?_eq_some_iff.1 hL).1
  obtain ⟨w', a', pb', cap', ip, r, hr, ho', ⟨hcap, hcc⟩, hst', hcase⟩ := run_appendK (P := P) (ty := ty) (s := 1) (by' := 1) (z := VU .u8 0#8) (zf := fun _ => VU .u8 0#8) (F := fun q => VU .u8 (F q)) (g := fun q => VU .u8 (lit Y q)) (pb := pb) (k := k) (len := len) (cap := cap) hst (elB_of he) rfl (fun q hq => by
      have h0 : q = 0 := by omega
      subst h0; rfl) (by rw [Nat.mul_one]; exact hL) hOw.ho (Src.ofBs hst ht' (hY.bs' k hL)) hOw.hc (by omega) (by omega)
  have hl : (X ++ Y).length = len + m := by rw [List.length_append, hX, hYl]
  have hF' : (fun q => if ip = true ∨ q < (len + m) * 1 then spl (fun q => VU .u8 (F q)) (len * 1) (m * 1) (fun q => VU .u8 (lit Y q)) q else VU .u8 0#8) = fun q => VU .u8 (if ip = true ∨ q < len + m then spl F len m (lit Y) q else 0#8) := by
    funext q
    simp only [Nat.mul_one]
    split
    · unfold spl; split <;> rfl
    · rfl
  rw [hF', Nat.mul_one] at hst'
  have hOw' : Ow a' pb' (X ++ Y).length cap' (fun q => if ip = true ∨ q < len + m then spl F len m (lit Y) q else 0#8) (X ++ Y) := by
    refine ⟨ho', by omega, rfl, fun q hq => ?_⟩
    show _ = if _ then _ else _
    rw [if_pos (.inr (by omega)), lit_app]
    by_cases h1 : q < X.length
    · rw [if_pos h1, spl_out _ _ _ _ _ (by omega)]; exact hOw.hF q (by omega)
    · rw [if_neg h1, spl_in _ _ _ _ _ (by omega), hX]
  have hview : ∃ iz, (iz = 0 ∨ iz = k + 1) ∧ Bx (⟨pb', 0, cap', fun q => VU .u8 (if ip = true ∨ q < len + m then spl F len m (lit Y) q else 0#8), true⟩ :: L.set k r) iz a len cap X := by
    rcases hcase with ⟨h1, h2, h3, h4⟩ | ⟨_, h1⟩
    · subst h1 h2 h3 h4
      refine ⟨0, .inl rfl, Ow.bx (F := fun q => if true = true ∨ q < len + m then spl F len m (lit Y) q else 0#8) ⟨hOw.ho, hOw.hc, hOw.hl, fun q hq => ?_⟩ 0 rfl⟩
      show _ = if _ then _ else _
      rw [if_pos (.inl rfl), spl_out _ _ _ _ _ (by omega)]; exact hOw.hF q hq
    · subst h1
      refine ⟨k + 1, .inr rfl, hOw.bx (k + 1) (rw := true) ?_⟩
      rw [List.getElem?_cons_succ, List.getElem?_set_self hk, Nat.mul_one]
  obtain ⟨iz, hiz, hV⟩ := hview
  refine Plan.effS hg (w' := w') (v := .slice a' (X ++ Y).length cap') (run_blt2 fun c => ?_) hst' (hw _ _) fun w' hw' => h a' pb' cap' _ r iz w' hOw' hiz hV hw'
  rw [hx, hy]
  simp only [builtin, Sem.run_bind, hr, hl]
  rfl
theorem Bx.two {L L' : List Rg} {i i1 i2 j1 j2 : Nat} {a : Option Addr} {len cc : Nat} {X : List Byte} {r1 r2 : Rg} (h : Bx L i a len cc X) (hi : i = i1 ∨ i = i2) (h1 : L[i1]? = some r1) (h2 : L[i2]? = some r2) (k1 : L'[j1]? = some r1) (k2 : L'[j2]? = some r2) : Bx L' (if i = i1 then j1 else j2) a len cc X := by
  by_cases h0 : i = i1
  · rw [if_pos h0]; exact h.move (by rw [h0]; exact h1) k1
  · rw [if_neg h0]; exact h.move (by rw [hi.resolve_left h0]; exact h2) k2
theorem LV.lift {D : EL} (hf : D.flat) {L L' : List Rg} {i : Nat} {a : Option Addr} {len cc : Nat} {X : List D.α} (h : LV D L i a len cc X) (hs : ∀ r ∈ L, r ∈ L') : ∃ i', LV D L' i' a len cc X := by
  by_cases hn : 0 < len
  · obtain ⟨h1, h2, h3⟩ := h
    obtain ⟨offs, ms, js, os, ps, G, rw, q1, q2, q3, q4, q5⟩ := h3 hn
    obtain ⟨k, hk⟩ := List.mem_iff_getElem?.1 (hs _ (List.mem_of_getElem? q1))
    exact ⟨k, h1, h2, fun _ => ⟨offs, ms, js, os, ps, G, rw, hk, q2, q3, q4, fun j x hx => by
      obtain ⟨b, s1, s2⟩ := q5 j x hx
      exact ⟨b, hf _ _ _ _ s1, s2⟩⟩⟩
  · exact ⟨0, h.1, h.2.1, fun h => absurd h hn⟩
end
end Go.LW

/-
  ENGINE X, PART 17 (own work): a cell of an element that is an array.
-/
namespace Go.LW
set_option linter.unusedSimpArgs false
set_option linter.unusedVariables false
set_option linter.unusedSectionVars false
open Go Go.RowKit

section
variable {P : Program} {n : Nat} {K : Pend → Env → World → Prop} {l : List It} {O O' : Pend} {e : Env} {w : World} {i ty : Nat} {d : Tmp} {pos : String} {aft : Array Edge} {gd g : Option (Nat × Bool)}
variable {B : Nat} {w0 : Base} {L L' : List Rg} {D : EL}
theorem catL_get1 {m q : Nat} {f : Nat → Value} (h : q < m) : (catL [(m, f)])[q]? = some (f q) := by
  rw [catL_one]; simp [h]
theorem Plan.idxLVE (_ : St B w0 L w) {t : TypeId} {x y : Operand} {ix len cc j sz q m : Nat} {a : Option Addr} {X : List D.α} {k : IntKind} (hX : LV D L ix a len cc X) (hj : j < len) (ha : arrB P t m 1 = true) (hg : wantedE n e g = true) (hx : ev n e x = .pointer (a.map fun z => ⟨z.block, z.off + j * sz, none⟩)) (hy : ev n e y = .int k (q : Int)) (hq : q < m)
    (h : Plan P n K l O (upd e d (.pointer (a.map fun z => ⟨z.block, z.off + j * sz + q, none⟩))) w) : Plan P n K (⟨i, true, ⟨some d, .indexAddr t x y, ty, pos, aft, gd⟩, g⟩ :: l) O e w := by
  obtain ⟨hl, hc, hX⟩ := hX
  obtain ⟨offs, ms, js, os, ps, G, rw, h1, h2, h3, h4, h5⟩ := hX (by omega)
  obtain ⟨b, hb1, hb2⟩ := h2 (by omega)
  subst hb2
  exact Plan.idxArrO ha hg hx hy hq (by rw [Nat.mul_one]) h
theorem Plan.maskZ {t yt : TypeId} {x y : Operand} {a z : Int} (k : Nat) (hz : z = a % ((2 ^ k : Nat) : Int)) (hk : k < 63) (hg : wantedE n e g = true) (hx : ev n e x = .int .i64 a) (hy : ev n e y = .int .i64 ((2 ^ k - 1 : Nat) : Int))
    (h : Plan P n K l O (upd e d (.int .i64 z)) w) : Plan P n K (⟨i, true, ⟨some d, .binOp .and t x y yt, ty, pos, aft, gd⟩, g⟩ :: l) O e w := by
  subst hz
  exact Plan.maskI k hk hg hx hy h
end
end Go.LW
