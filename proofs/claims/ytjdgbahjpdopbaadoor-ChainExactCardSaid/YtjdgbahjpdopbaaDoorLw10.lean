/-
  ENGINE, PART 10 (own work): arrays compared; a pointer and nil; an array out of a slice.
-/
import Derived.Test.YtjdgbahjpdopbaaDoorLw9
import Derived.ChangeKeysEq
import Derived.Laws.Pointers
namespace Go.LW
set_option linter.unusedSimpArgs false
set_option linter.unusedVariables false
set_option linter.unusedSectionVars false
open Go Go.RowKit

/-- the first n places are the same -/
def eqB {s : Nat} (n : Nat) (F G : Nat → BitVec s) : Bool := (List.range n).all fun q => F q == G q
theorem eqB_iff {s n : Nat} {F G : Nat → BitVec s} : eqB n F G = true ↔ ∀ q, q < n → F q = G q := by
  unfold eqB; simp

/-- an array of n of a kind of numbers -/
def arrIB (P : Program) (t n : Nat) (kd : IntKind) : Bool := match P.underlying t with
  | some (.array m el) => m == n && (match P.info? el with | some i => i.size == 1 | none => false) && (match P.underlying el with | some (.int k) => k == kd | _ => false) && !P.eqGuardType P.depth t
  | _ => false
theorem arrIB_spec {P : Program} {t n : Nat} {kd : IntKind} (h : arrIB P t n kd = true) : ∃ el i, P.underlying t = some (.array n el) ∧ P.info? el = some i ∧ i.size = 1 ∧ P.underlying el = some (.int kd) ∧ P.eqGuardType P.depth t = false := by
  unfold arrIB at h
  cases hu : P.underlying t with
  | none => rw [hu] at h; cases h
  | some dsc =>
    rw [hu] at h
    cases dsc <;> try (cases h; done)
    rename_i m el
    simp only [Bool.and_eq_true, beq_iff_eq, Bool.not_eq_true'] at h
    obtain ⟨⟨⟨h1, h2⟩, h3⟩, h4⟩ := h
    subst h1
    cases hi : P.info? el with
    | none => rw [hi] at h2; cases h2
    | some i =>
      rw [hi] at h2
      simp only [beq_iff_eq] at h2
      cases hu2 : P.underlying el with
      | none => rw [hu2] at h3; cases h3
      | some d2 =>
        rw [hu2] at h3
        cases d2 <;> try (cases h3; done)
        rename_i k
        simp only [beq_iff_eq] at h3
        subst h3
        exact ⟨el, i, rfl, hi, h2, hu2, h4⟩

section run
variable {P : Program}
theorem run_eqItems {s : Nat} (d : Nat) {el : TypeId} {kd : IntKind} (he : P.underlying el = some (.int kd)) (xs ys : Array Value) (F G : Nat → BitVec s) (w : World) : ∀ is : List Nat, (∀ i ∈ is, xs[i]? = some (VU kd (F i)) ∧ ys[i]? = some (VU kd (G i))) → (Op.eqItems (d + 1) el 1 xs ys is).run P w = .ok (is.all fun q => F q == G q) w
  | [], _ => by simp [Op.eqItems]
  | i :: is, h => by
    obtain ⟨h1, h2⟩ := h i List.mem_cons_self
    have ih := run_eqItems d he xs ys F G w is (fun j hj => h j (List.mem_cons_of_mem _ hj))
    have px : (part el xs (i * 1)).run P w = .ok (VU kd (F i)) w := by
      simp [part, isAgg, run_underlying he, h1]
    have py : (part el ys (i * 1)).run P w = .ok (VU kd (G i)) w := by
      simp [part, isAgg, run_underlying he, h2]
    have pe : (Op.equalIn (d + 1) el (VU kd (F i)) (VU kd (G i))).run P w = .ok (F i == G i) w := by
      rw [run_equalIn_int w d el kd kd _ _ he]
      congr 1
      rw [Bool.eq_iff_iff, beq_iff_eq, beq_iff_eq, BitVec.toNat_eq]
      omega
    simp only [Op.eqItems, Sem.run_bind, px, py, pe, Result.andThen_ok, List.all_cons]
    cases hb : (F i == G i)
    · simp
    · simpa using ih

theorem run_eqArr {s n : Nat} {t : TypeId} {kd : IntKind} (h : arrIB P t n kd = true) (F G : Nat → BitVec s) (w : World) : (Op.equal t (AG [(n, fun q => VU kd (F q))]) (AG [(n, fun q => VU kd (G q))])).run P w = .ok (eqB n F G) w := by
  obtain ⟨el, i, hu, hi, hs, hk, _⟩ := arrIB_spec h
  unfold Op.equal AG
  rw [show Op.maxDepth = 9998 + 1 + 1 by rfl, run_equalIn_array w (9998 + 1) _ _ hu hi]
  have hc : P.cellsOf el = 1 := by simp [Program.cellsOf, hi, hs]
  rw [hc]
  refine run_eqItems 9998 hk _ _ F G w _ fun j hj => ?_
  have hj := List.mem_range.1 hj
  simp [catL_one, hj]

theorem run_eqGuard {t : TypeId} {op : BinOp} {x y : Operand} {a b : Array Value} (h : P.eqGuardType P.depth t = false) (w : World) : (eqGuard op t x y (.agg a) (.agg b)).run P w = .ok () w := by
  have hp : ∀ w : World, (program : Sem Program).run P w = .ok P w := fun _ => rfl
  unfold eqGuard
  cases op <;> simp [h, hp]
end run

section step
variable {P : Program} {n : Nat} {K : Pend → Env → World → Prop} {l : List It} {O O' : Pend} {e : Env} {w : World} {i ty : Nat} {d : Tmp} {pos : String} {aft : Array Edge} {gd g : Option (Nat × Bool)}

theorem Plan.eqArr {t yt : TypeId} {x y : Operand} {s m : Nat} {kd : IntKind} {F G : Nat → BitVec s} (ha : arrIB P t m kd = true) (hg : wantedE n e g = true) (hx : ev n e x = AG [(m, fun q => VU kd (F q))]) (hy : ev n e y = AG [(m, fun q => VU kd (G q))])
    (h : Plan P n K l O (upd e d (.bool (eqB m F G))) w) : Plan P n K (⟨i, true, ⟨some d, .binOp .eql t x y yt, ty, pos, aft, gd⟩, g⟩ :: l) O e w :=
  Plan.val hg (fun w => run_v (by
    rw [hx, hy, Sem.run_bind]
    have h1 : (eqGuard .eql t x y (AG [(m, fun q => VU kd (F q))]) (AG [(m, fun q => VU kd (G q))])).run P w = .ok () w := run_eqGuard (arrIB_spec ha).choose_spec.choose_spec.2.2.2.2 w
    rw [h1]
    simp only [Result.andThen_ok]
    have h2 := run_eqArr ha F G w
    unfold AG at h2 ⊢
    simp only [binOp, Sem.run_bind, h2, Result.andThen_ok, Sem.run_pure])) h
theorem Plan.neArr {t yt : TypeId} {x y : Operand} {s m : Nat} {kd : IntKind} {F G : Nat → BitVec s} (ha : arrIB P t m kd = true) (hg : wantedE n e g = true) (hx : ev n e x = AG [(m, fun q => VU kd (F q))]) (hy : ev n e y = AG [(m, fun q => VU kd (G q))])
    (h : Plan P n K l O (upd e d (.bool (!eqB m F G))) w) : Plan P n K (⟨i, true, ⟨some d, .binOp .neq t x y yt, ty, pos, aft, gd⟩, g⟩ :: l) O e w :=
  Plan.val hg (fun w => run_v (by
    rw [hx, hy, Sem.run_bind]
    have h1 : (eqGuard .neq t x y (AG [(m, fun q => VU kd (F q))]) (AG [(m, fun q => VU kd (G q))])).run P w = .ok () w := run_eqGuard (arrIB_spec ha).choose_spec.choose_spec.2.2.2.2 w
    rw [h1]
    simp only [Result.andThen_ok]
    have h2 := run_eqArr ha F G w
    unfold AG at h2 ⊢
    simp only [binOp, Sem.run_bind, h2, Result.andThen_ok, Sem.run_pure])) h
section arr
variable {t yt : TypeId} {x y : Operand} {s m : Nat} {kd : IntKind} {F G : Nat → BitVec s} (ha : arrIB P t m kd = true) (hg : wantedE n e g = true) (hx : ev n e x = AG [(m, fun q => VU kd (F q))]) (hy : ev n e y = AG [(m, fun q => VU kd (G q))])
include ha hg hx hy
theorem Plan.eqArrT (hc : ∀ q, q < m → F q = G q) (h : Plan P n K l O (upd e d (.bool true)) w) : Plan P n K (⟨i, true, ⟨some d, .binOp .eql t x y yt, ty, pos, aft, gd⟩, g⟩ :: l) O e w :=
  Plan.eqArr ha hg hx hy (by rw [eqB_iff.2 hc]; exact h)
theorem Plan.neArrF (hc : ∀ q, q < m → F q = G q) (h : Plan P n K l O (upd e d (.bool false)) w) : Plan P n K (⟨i, true, ⟨some d, .binOp .neq t x y yt, ty, pos, aft, gd⟩, g⟩ :: l) O e w :=
  Plan.neArr ha hg hx hy (by rw [eqB_iff.2 hc]; exact h)
theorem Plan.eqArrS (h1 : (∀ q, q < m → F q = G q) → Plan P n K l O (upd e d (.bool true)) w) (h2 : ¬ (∀ q, q < m → F q = G q) → Plan P n K l O (upd e d (.bool false)) w) : Plan P n K (⟨i, true, ⟨some d, .binOp .eql t x y yt, ty, pos, aft, gd⟩, g⟩ :: l) O e w := by
  refine Plan.eqArr ha hg hx hy ?_
  by_cases hq : eqB m F G = true
  · rw [hq]; exact h1 (eqB_iff.1 hq)
  · rw [Bool.eq_false_iff.2 hq]; exact h2 fun hc => hq (eqB_iff.2 hc)
theorem Plan.neArrS (h1 : ¬ (∀ q, q < m → F q = G q) → Plan P n K l O (upd e d (.bool true)) w) (h2 : (∀ q, q < m → F q = G q) → Plan P n K l O (upd e d (.bool false)) w) : Plan P n K (⟨i, true, ⟨some d, .binOp .neq t x y yt, ty, pos, aft, gd⟩, g⟩ :: l) O e w := by
  refine Plan.neArr ha hg hx hy ?_
  by_cases hq : eqB m F G = true
  · rw [hq]; exact h2 (eqB_iff.1 hq)
  · rw [Bool.eq_false_iff.2 hq]; exact h1 fun hc => hq (eqB_iff.2 hc)
end arr

def ptrB (P : Program) (t : Nat) : Bool := match P.underlying t with | some (.pointer _) => true | _ => false
theorem ptrB_spec {P : Program} {t : Nat} (h : ptrB P t = true) : P.underlying t = some (.pointer (P.pointee t)) := by
  unfold ptrB at h
  cases hu : P.underlying t with
  | none => rw [hu] at h; cases h
  | some dsc => rw [hu] at h; cases dsc <;> first | (cases h; done) | (simp [Program.pointee, hu])
theorem Plan.eqNil {t yt : TypeId} {x y : Operand} {p : Option Addr} {b : Bool} (ht : ptrB P t = true) (hg : wantedE n e g = true) (hx : ev n e x = .pointer p) (hy : ev n e y = .pointer none) (hb : p.isNone = b)
    (h : Plan P n K l O (upd e d (.bool b)) w) : Plan P n K (⟨i, true, ⟨some d, .binOp .eql t x y yt, ty, pos, aft, gd⟩, g⟩ :: l) O e w :=
  Plan.val hg (fun w => run_v (by
    rw [hx, hy, Sem.run_bind]
    have h1 : (eqGuard .eql t x y (.pointer p) (.pointer none)).run P w = .ok () w := rfl
    rw [h1, ← hb]
    exact run_eql_pointer_nil w t p (ptrB_spec ht))) h
theorem Plan.neNil {t yt : TypeId} {x y : Operand} {p : Option Addr} {b : Bool} (ht : ptrB P t = true) (hg : wantedE n e g = true) (hx : ev n e x = .pointer p) (hy : ev n e y = .pointer none) (hb : (!p.isNone) = b)
    (h : Plan P n K l O (upd e d (.bool b)) w) : Plan P n K (⟨i, true, ⟨some d, .binOp .neq t x y yt, ty, pos, aft, gd⟩, g⟩ :: l) O e w :=
  Plan.val hg (fun w => run_v (by
    rw [hx, hy, Sem.run_bind]
    have h1 : (eqGuard .neq t x y (.pointer p) (.pointer none)).run P w = .ok () w := rfl
    rw [h1, ← hb]
    exact run_neq_pointer_nil w t p (ptrB_spec ht))) h

/-- [n]T(s) reads through the slice's own pointer -/
theorem Plan.sl2arr {t : TypeId} {x : Operand} {m len cap o b : Nat} {a : Option Addr} {el : TypeId} (hu : P.underlying t = some (.array m el)) (hg : wantedE n e g = true) (hx : ev n e x = .slice a len cap) (hs : SlV a (some b) o len) (hm : 0 < m ∧ m ≤ len)
    (h : Plan P n K l O (upd e d (.pointer (some ⟨b, o, none⟩))) w) : Plan P n K (⟨i, true, ⟨some d, .sliceToArrayPointer t x, ty, pos, aft, gd⟩, g⟩ :: l) O e w :=
  Plan.val hg (fun w => run_v (by
    obtain ⟨b', h1, h2⟩ := hs (by omega)
    obtain rfl : b = b' := Option.some.inj h1
    rw [hx, h2]
    simp only [Instr.arrayAt, Sem.run_bind, run_underlying hu w, Result.andThen_ok, if_neg (show ¬ len < m by omega), Sem.run_pure])) h
end step

/-! ### slices of the call's own, as bytes -/
def lit {s : Nat} (l : List (BitVec s)) (q : Nat) : BitVec s := l.getD q 0#s
theorem Bs.own {L : List Rg} (k : Nat) {a : Option Addr} {pb : Option Nat} {len cap : Nat} {F : Nat → BitVec 8} (hL : L[k]? = some ⟨pb, 0, cap, fun q => VU .u8 (F q), true⟩) (ho : OwnSl a pb cap) (hl : len ≤ cap) : Bs L a len cap F :=
  ⟨k, 0, cap, 0, 0, pb, F, true, hL, ho.sl hl, rfl, by omega, hl, fun q _ => by rw [Nat.zero_add]⟩
theorem Bs.le {L : List Rg} {a : Option Addr} {len cc : Nat} {M : Nat → BitVec 8} (h : Bs L a len cc M) : len ≤ cc := by
  obtain ⟨_, _, _, _, _, _, _, _, _, _, _, _, h5, _⟩ := h; exact h5
theorem OwnSl.pos {a : Option Addr} {pb : Option Nat} {cap : Nat} (h : OwnSl a pb cap) (hc : 0 < cap) : ∃ b, pb = some b ∧ a = some ⟨b, 0, none⟩ := by
  rcases h with ⟨h1, _⟩ | h1
  · omega
  · exact h1
theorem slB_u {P : Program} {t sz : Nat} (h : slB P t sz = true) : ∃ el, P.underlying t = some (.slice el) := by
  obtain ⟨el, hu, _⟩ := slB_spec h
  exact ⟨el, hu⟩
theorem Src.ofBs {P : Program} {B : Nat} {w0 w : World} {L : List Rg} (hst : St B w0 L w) {t' sz : TypeId} (hk : slB P t' sz = true) {a : Option Addr} {len cc : Nat} {M : Nat → BitVec 8} (hb : Bs L a len cc M) : Src P 1 t' (.slice a len cc) len ((List.range (len * 1)).map fun q => VU .u8 (M q)) w := by
  obtain ⟨iS, offs, ms, js, os, ps, G, rw, h1, h2, h3, h4, h5, h6⟩ := hb
  obtain ⟨el, hu⟩ := slB_u hk
  have := Src.ofL (P := P) (cap := cc) hst hu h1 h2 h3 h4 (fun _ _ => rfl)
  have hm : (List.range (len * 1)).map (fun q => VU .u8 (M q)) = (List.range (len * 1)).map (fun q => VU .u8 (G (js + q))) := List.map_congr_left fun q hq => by
    have := List.mem_range.1 hq
    rw [h6 q (by omega)]
  rw [hm]; exact this
theorem St.ownNil {B : Nat} {w0 w : World} {L : List Rg} (h : St B w0 L w) : St B w0 (⟨none, 0, 0, fun _ => VU .u8 0#8, true⟩ :: L) w := h.nilE _
theorem OwnSl.nil : OwnSl none none 0 := .inl ⟨rfl, rfl, rfl⟩
end Go.LW
