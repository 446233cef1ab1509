import Derived.Test.YtbkgblhmlenocaaEa
import Derived.WideShapes
import Derived.Laws.Externs
import Derived.Lib.SlBytesConst
import Derived.Laws.StructEq

/-
  ENGINE X, PART 1 (own work): walks against a relation. A loop is followed by a chain of its rounds (Iter); a view of bytes with the number of its range; an own slice with all that is known of it.
-/
namespace Go.LW
set_option linter.unusedSimpArgs false
set_option linter.unusedVariables false
set_option linter.unusedSectionVars false
open Go Go.RowKit

/-- From s the rounds lead to x. -/
inductive Iter {S X : Type} (step : S → S ⊕ X → Prop) : S → X → Prop
  | done {s : S} {x : X} (h : step s (.inr x)) : Iter step s x
  | more {s s' : S} {x : X} (h : step s (.inl s')) (t : Iter step s' x) : Iter step s x

inductive IterN {S X : Type} (step : S → S ⊕ X → Prop) : Nat → S → X → Prop
  | done {m : Nat} {s : S} {x : X} (h : step s (.inr x)) : IterN step m s x
  | more {m : Nat} {s s' : S} {x : X} (h : step s (.inl s')) (t : IterN step m s' x) : IterN step (m + 1) s x
theorem Iter.n {S X : Type} {step : S → S ⊕ X → Prop} {s : S} {x : X} (h : Iter step s x) : ∃ m, IterN step m s x := by
  induction h with
  | done h => exact ⟨0, .done h⟩
  | more h _ ih => obtain ⟨m, hm⟩ := ih; exact ⟨m + 1, .more h hm⟩

/-- For loops that count: from round i on, up to m. -/
theorem Iter.count {S X : Type} {step : S → S ⊕ X → Prop} {x : X} (f : Nat → S) (m : Nat) (hs : ∀ i, i < m → step (f i) (.inl (f (i + 1)))) (hx : step (f m) (.inr x)) : Iter step (f 0) x := by
  have key : ∀ d i, i + d = m → Iter step (f i) x := by
    intro d
    induction d with
    | zero => intro i hi; obtain rfl : i = m := by omega
              exact .done hx
    | succ d ih => intro i hi; exact .more (hs i (by omega)) (ih (i + 1) (by omega))
  exact key m 0 (by omega)
/-- .. that end behind some round. -/
theorem Iter.stop {S X : Type} {step : S → S ⊕ X → Prop} {x : X} (f : Nat → S) (m : Nat) (hs : ∀ i, i < m → step (f i) (.inl (f (i + 1)))) (hx : step (f m) (.inr x)) (i : Nat) (hi : i ≤ m) : Iter step (f i) x := by
  have key : ∀ d i, i + d = m → Iter step (f i) x := by
    intro d
    induction d with
    | zero => intro i hi; obtain rfl : i = m := by omega
              exact .done hx
    | succ d ih => intro i hi; exact .more (hs i (by omega)) (ih (i + 1) (by omega))
  exact key (m - i) i (by omega)

def iterR {S X : Type} (o : S ⊕ X) (inv : S → Env → World → Prop) (R : Exit → Env → World → Prop) : Exit → Env → World → Prop
  | .normal, e, w => ∃ s, o = .inl s ∧ inv s e w
  | x, e, w => R x e w

section loops
variable {P : Program} {n : Nat} {R : Exit → Env → World → Prop} {e : Env} {w : World}
theorem W.iter {c : Code} {S X : Type} {step : S → S ⊕ X → Prop} {s0 : S} {x : X} (hI : Iter step s0 x) (inv : S → Env → World → Prop) (h0 : inv s0 e w)
    (round : ∀ s o, step s o → (∀ y, o = .inr y → y = x) → ∀ e w, inv s e w → W P n c (iterR o inv R) e w) : W P n (.loop c) R e w := by
  obtain ⟨m, hm⟩ := hI.n
  refine W.loop (fun m e w => ∃ s, IterN step m s x ∧ inv s e w) m ⟨s0, hm, h0⟩ ?_
  rintro m e w ⟨s, hs, hi⟩
  cases hs with
  | done h =>
    refine (round s _ h (fun y hy => (Sum.inr.inj hy).symm) e w hi).mono fun ex e w hr => ?_
    cases ex with
    | normal => obtain ⟨s', hs', _⟩ := hr; cases hs'
    | _ => exact hr
  | more h t =>
    refine (round s _ h (fun y hy => by cases hy) e w hi).mono fun ex e w hr => ?_
    cases ex with
    | normal => obtain ⟨s', hs', hi'⟩ := hr; cases hs'; exact ⟨_, Nat.lt_succ_self _, _, t, hi'⟩
    | _ => exact hr
/-- What follows is proved once, of every state that fits. -/
theorem W.cutN {c : Code} (J : Env → World → Prop) (h : W P n c (thenR J R) e w) (hJ : ∀ e w, J e w → R .normal e w) : W P n c R e w :=
  h.mono fun x e w hx => by cases x <;> first | exact hJ _ _ hx | exact hx
theorem ifT {p A B : Prop} [Decidable p] (h : if p then A else B) (hc : p) : A := by rw [if_pos hc] at h; exact h
theorem ifF {p A B : Prop} [Decidable p] (h : if p then A else B) (hc : ¬ p) : B := by rw [if_neg hc] at h; exact h
theorem iterR_ret {S X : Type} {o : S ⊕ X} {inv : S → Env → World → Prop} (h : R .ret e w) : iterR o inv R .ret e w := h
theorem iterR_exit {S X : Type} {o : S ⊕ X} {inv : S → Env → World → Prop} {id : Nat} (h : R (.exit id) e w) : iterR o inv R (.exit id) e w := h
theorem iterR_norm {S X : Type} {o : S ⊕ X} {inv : S → Env → World → Prop} (h : ∃ s, o = .inl s ∧ inv s e w) : iterR o inv R .normal e w := h
end loops

section step
variable {P : Program} {n : Nat} {K : Pend → Env → World → Prop} {l : List It} {O O' : Pend} {e : Env} {w : World} {i ty : Nat} {d : Tmp} {pos : String} {aft : Array Edge} {gd g : Option (Nat × Bool)}
variable {B : Nat} {w0 : Base} {L L' : List Rg}

theorem Plan.cmpP {op : BinOp} {t yt : TypeId} {x y : Operand} {k : IntKind} {a b : Int} {p : Prop} [Decidable p] (hop : isCmp op = true) (hg : wantedE n e g = true) (hx : ev n e x = .int k a) (hy : ev n e y = .int k b) (hp : icmp op a b = decide p)
    (h : Plan P n K l O (upd e d (.bool (decide p))) w) : Plan P n K (⟨i, true, ⟨some d, .binOp op t x y yt, ty, pos, aft, gd⟩, g⟩ :: l) O e w := Plan.cmp hop hg hx hy (by rw [hp]; exact h)
theorem Plan.cmpV {op : BinOp} {t yt : TypeId} {x y : Operand} {k : IntKind} {a b : Int} {p : Prop} [Decidable p] {v : Bool} (hop : isCmp op = true) (hg : wantedE n e g = true) (hx : ev n e x = .int k a) (hy : ev n e y = .int k b) (hp : icmp op a b = decide p) (hv : decide p = v)
    (h : Plan P n K l O (upd e d (.bool v)) w) : Plan P n K (⟨i, true, ⟨some d, .binOp op t x y yt, ty, pos, aft, gd⟩, g⟩ :: l) O e w := Plan.cmp hop hg hx hy (by rw [hp, hv]; exact h)
theorem icmp_eq {a b : Int} : icmp .eql a b = decide (a = b) := by unfold icmp; rw [Bool.eq_iff_iff]; simp
theorem icmp_ne {a b : Int} : icmp .neq a b = decide (a ≠ b) := by unfold icmp; rw [Bool.eq_iff_iff]; simp
theorem icmp_lt {a b : Int} : icmp .lss a b = decide (a < b) := rfl
theorem icmp_le {a b : Int} : icmp .leq a b = decide (a ≤ b) := rfl
theorem icmp_gt {a b : Int} : icmp .gtr a b = decide (b < a) := rfl
theorem icmp_ge {a b : Int} : icmp .geq a b = decide (b ≤ a) := rfl
theorem icmp_eqN {a b : Nat} : icmp .eql a b = decide (a = b) := by rw [icmp_eq]; exact decide_eq_decide.2 (by omega)
theorem icmp_neN {a b : Nat} : icmp .neq a b = decide (a ≠ b) := by rw [icmp_ne]; exact decide_eq_decide.2 (by omega)
theorem icmp_ltN {a b : Nat} : icmp .lss a b = decide (a < b) := decide_eq_decide.2 (by omega)
theorem icmp_leN {a b : Nat} : icmp .leq a b = decide (a ≤ b) := decide_eq_decide.2 (by omega)
theorem icmp_gtN {a b : Nat} : icmp .gtr a b = decide (b < a) := decide_eq_decide.2 (by omega)
theorem icmp_geN {a b : Nat} : icmp .geq a b = decide (b ≤ a) := decide_eq_decide.2 (by omega)
theorem icmp_eqU {s : Nat} {a b : BitVec s} : icmp .eql (a.toNat : Int) (b.toNat : Int) = decide (a = b) := by rw [icmp_eqN]; exact decide_eq_decide.2 ⟨BitVec.eq_of_toNat_eq, fun h => by rw [h]⟩
theorem icmp_neU {s : Nat} {a b : BitVec s} : icmp .neq (a.toNat : Int) (b.toNat : Int) = decide (a ≠ b) := by rw [icmp_neN]; exact decide_eq_decide.2 ⟨fun h h2 => h (by rw [h2]), fun h h2 => h (BitVec.eq_of_toNat_eq h2)⟩

/-- arrays of numbers compared, as a bool that is known -/
theorem Plan.eqArrV {t yt : TypeId} {x y : Operand} {s m : Nat} {kd : IntKind} {F G : Nat → BitVec s} {b : Bool} (ha : arrIB P t m kd = true) (hg : wantedE n e g = true) (hx : ev n e x = AG [(m, fun q => VU kd (F q))]) (hy : ev n e y = AG [(m, fun q => VU kd (G q))]) (hb : eqB m F G = b)
    (h : Plan P n K l O (upd e d (.bool b)) w) : Plan P n K (⟨i, true, ⟨some d, .binOp .eql t x y yt, ty, pos, aft, gd⟩, g⟩ :: l) O e w := Plan.eqArr ha hg hx hy (by rw [hb]; exact h)
theorem Plan.neArrV {t yt : TypeId} {x y : Operand} {s m : Nat} {kd : IntKind} {F G : Nat → BitVec s} {b : Bool} (ha : arrIB P t m kd = true) (hg : wantedE n e g = true) (hx : ev n e x = AG [(m, fun q => VU kd (F q))]) (hy : ev n e y = AG [(m, fun q => VU kd (G q))]) (hb : eqB m F G = b)
    (h : Plan P n K l O (upd e d (.bool (!b))) w) : Plan P n K (⟨i, true, ⟨some d, .binOp .neq t x y yt, ty, pos, aft, gd⟩, g⟩ :: l) O e w := Plan.neArr ha hg hx hy (by rw [hb]; exact h)

/-! addresses within a range -/
theorem Plan.idxArrO {t : TypeId} {x y : Operand} {b o o' j len sz : Nat} {k : IntKind} (ha : arrB P t len sz = true) (hg : wantedE n e g = true) (hx : ev n e x = .pointer (some ⟨b, o, none⟩)) (hy : ev n e y = .int k (j : Int)) (hj : j < len) (ho : o + j * sz = o')
    (h : Plan P n K l O (upd e d (.pointer (some ⟨b, o', none⟩))) w) : Plan P n K (⟨i, true, ⟨some d, .indexAddr t x y, ty, pos, aft, gd⟩, g⟩ :: l) O e w := Plan.idxArr ha hg hx hy hj (by rw [ho]; exact h)
theorem Plan.idxSlO {t : TypeId} {x y : Operand} {b o o' j len cap sz : Nat} {k : IntKind} (ha : slB P t sz = true) (hg : wantedE n e g = true) (hx : ev n e x = .slice (some ⟨b, o, none⟩) len cap) (hy : ev n e y = .int k (j : Int)) (hj : j < len) (ho : o + j * sz = o')
    (h : Plan P n K l O (upd e d (.pointer (some ⟨b, o', none⟩))) w) : Plan P n K (⟨i, true, ⟨some d, .indexAddr t x y, ty, pos, aft, gd⟩, g⟩ :: l) O e w := Plan.idxSl ha hg hx hy hj (by rw [ho]; exact h)
theorem Plan.fieldAddrO {t : TypeId} {x : Operand} {b o o' f : Nat} (off : Nat) (hf : fieldB P t f off = true) (hg : wantedE n e g = true) (hx : ev n e x = .pointer (some ⟨b, o, none⟩)) (ho : o + off = o')
    (h : Plan P n K l O (upd e d (.pointer (some ⟨b, o', none⟩))) w) : Plan P n K (⟨i, true, ⟨some d, .fieldAddr t x f, ty, pos, aft, gd⟩, g⟩ :: l) O e w := Plan.fieldAddr off hf hg hx (by rw [ho]; exact h)
end step

/-! ### views: which range it is -/
/-- The slice (a, len, cc) reads as the bytes X, out of range i (or it is empty). -/
def Bx (L : List Rg) (i : Nat) (a : Option Addr) (len cc : Nat) (X : List Byte) : Prop :=
  X.length = len ∧ len ≤ cc ∧ (0 < len → ∃ (offs ms js os : Nat) (ps : Option Nat) (G : Nat → Byte) (rw : Bool), L[i]? = some ⟨ps, offs, ms, fun q => VU .u8 (G q), rw⟩ ∧ SlV a ps os len ∧ os = offs + js ∧ js + len ≤ ms ∧ ∀ q, q < len → lit X q = G (js + q))
theorem Bx.bs {L : List Rg} {i : Nat} {a : Option Addr} {len cc : Nat} {X : List Byte} (h : Bx L i a len cc X) (hn : 0 < len) : Bs L a len cc (lit X) := by
  obtain ⟨hl, hc, h⟩ := h
  obtain ⟨offs, ms, js, os, ps, G, rw, h1, h2, h3, h4, h5⟩ := h hn
  exact ⟨i, offs, ms, js, os, ps, G, rw, h1, h2, h3, h4, hc, h5⟩
/-- where a range of bytes is known, the empty slice too reads out of one -/
theorem Bx.bs' {L : List Rg} {i : Nat} {a : Option Addr} {len cc : Nat} {X : List Byte} (h : Bx L i a len cc X) (k : Nat) {ps : Option Nat} {offs ms : Nat} {G : Nat → Byte} {rw : Bool} (hL : L[k]? = some ⟨ps, offs, ms, fun q => VU .u8 (G q), rw⟩) : Bs L a len cc (lit X) := by
  by_cases hn : 0 < len
  · exact h.bs hn
  · obtain ⟨hl, hc, h⟩ := h
    obtain rfl : len = 0 := by omega
    exact ⟨k, offs, ms, 0, offs, ps, G, rw, hL, fun h0 => absurd h0 (Nat.lt_irrefl 0), rfl, Nat.zero_le _, hc, fun q hq => absurd hq (Nat.not_lt_zero q)⟩
theorem Bx.hl {L : List Rg} {i : Nat} {a : Option Addr} {len cc : Nat} {X : List Byte} (h : Bx L i a len cc X) : X.length = len := h.1
theorem Bs.bx {L : List Rg} {a : Option Addr} {len cc : Nat} {X : List Byte} (h : Bs L a len cc (lit X)) (hl : X.length = len) : ∃ i, Bx L i a len cc X := by
  obtain ⟨i, offs, ms, js, os, ps, G, rw, h1, h2, h3, h4, h5, h6⟩ := h
  exact ⟨i, hl, h5, fun _ => ⟨offs, ms, js, os, ps, G, rw, h1, h2, h3, h4, h6⟩⟩
theorem Bx.nil {L : List Rg} (i : Nat) {a : Option Addr} {cc : Nat} : Bx L i a 0 cc [] := ⟨rfl, Nat.zero_le _, fun h => absurd h (Nat.lt_irrefl 0)⟩
theorem Bx.le {L : List Rg} {i : Nat} {a : Option Addr} {len cc : Nat} {X : List Byte} (h : Bx L i a len cc X) : len ≤ cc := h.2.1
theorem Bx.app {L : List Rg} {i : Nat} {a : Option Addr} {len cc : Nat} {X : List Byte} (h : Bx L i a len cc X) (C : List Rg) : Bx (C ++ L) (i + C.length) a len cc X := by
  obtain ⟨hl, hc, h⟩ := h
  refine ⟨hl, hc, fun hn => ?_⟩
  obtain ⟨offs, ms, js, os, ps, G, rw, h1, h2⟩ := h hn
  refine ⟨offs, ms, js, os, ps, G, rw, ?_, h2⟩
  rw [List.getElem?_append_right (by omega), Nat.add_sub_cancel]; exact h1
theorem Bx.seg {L : List Rg} {i : Nat} {a : Option Addr} {len cc : Nat} {X : List Byte} (h : Bx L i a len cc X) {lo hi : Nat} (hb : lo ≤ hi ∧ hi ≤ len) : Bx L i (if cc = lo then a else a.map (·.add (lo * 1))) (hi - lo) (cc - lo) (seg X lo hi) := by
  obtain ⟨hl, hc, h⟩ := h
  refine ⟨seg_length (by omega), by omega, fun hn => ?_⟩
  obtain ⟨offs, ms, js, os, ps, G, rw, h1, h2, h3, h4, h6⟩ := h (by omega)
  refine ⟨offs, ms, js + lo, os + lo, ps, G, rw, h1, ?_, by omega, by omega, fun q hq => ?_⟩
  · intro hn
    obtain ⟨b, hb1, hb2⟩ := h2 (by omega)
    refine ⟨b, hb1, ?_⟩
    rw [if_neg (by omega), hb2]
    simp [Addr.add]
  · rw [lit_seg (by omega) (by omega), h6 _ (by omega), Nat.add_assoc]
/-- an own slice: from the head of its block -/
structure Ow (a : Option Addr) (pb : Option Nat) (len cap : Nat) (F : Nat → Byte) (X : List Byte) : Prop where
  ho : OwnSl a pb cap
  hc : len ≤ cap
  hl : X.length = len
  hF : ∀ q, q < len → lit X q = F q
theorem Ow.nil : Ow none none 0 0 (fun _ => 0#8) [] := ⟨OwnSl.nil, Nat.le_refl _, rfl, fun q hq => absurd hq (Nat.not_lt_zero q)⟩
theorem Ow.bx {L : List Rg} {a : Option Addr} {pb : Option Nat} {len cap : Nat} {F : Nat → Byte} {X : List Byte} (h : Ow a pb len cap F X) (k : Nat) {rw : Bool} (hL : L[k]? = some ⟨pb, 0, cap, fun q => VU .u8 (F q), rw⟩) : Bx L k a len cap X :=
  ⟨h.hl, h.hc, fun _ => ⟨0, cap, 0, 0, pb, F, rw, hL, h.ho.sl h.hc, rfl, by have := h.hc; omega, fun q hq => by rw [Nat.zero_add]; exact h.hF q hq⟩⟩
/-- a slice of an array that is a variable -/
theorem Bx.arr {L : List Rg} (k : Nat) {b offs lo n cc m : Nat} {G : Nat → Byte} {rw : Bool} (h : L[k]? = some ⟨some b, offs, m, fun q => VU .u8 (G q), rw⟩) (hn : lo + n ≤ m) (hc : n ≤ cc) : Bx L k (some ⟨b, offs + lo, none⟩) n cc (dl n fun q => G (lo + q)) :=
  ⟨dl_length _ _, hc, fun _ => ⟨offs, m, lo, offs + lo, some b, G, rw, h, fun _ => ⟨b, rfl, rfl⟩, rfl, hn, fun q hq => lit_dl _ hq⟩⟩
theorem Bx.arr0 {L : List Rg} (k : Nat) {b offs n cc m : Nat} {G : Nat → Byte} {rw : Bool} (h : L[k]? = some ⟨some b, offs, m, fun q => VU .u8 (G q), rw⟩) (hn : n ≤ m) (hc : n ≤ cc) : Bx L k (some ⟨b, offs, none⟩) n cc (dl n G) :=
  ⟨dl_length _ _, hc, fun _ => ⟨offs, m, 0, offs, some b, G, rw, h, fun _ => ⟨b, rfl, rfl⟩, rfl, by omega, fun q hq => by rw [Nat.zero_add]; exact lit_dl _ hq⟩⟩
theorem Ow.arr {b m : Nat} {G : Nat → Byte} : Ow (some ⟨b, 0, none⟩) (some b) m m G (dl m G) := ⟨.inr ⟨b, rfl, rfl⟩, Nat.le_refl _, dl_length _ _, fun q hq => lit_dl _ hq⟩

section step
variable {P : Program} {n : Nat} {K : Pend → Env → World → Prop} {l : List It} {O O' : Pend} {e : Env} {w : World} {i ty : Nat} {d : Tmp} {pos : String} {aft : Array Edge} {gd g : Option (Nat × Bool)}
variable {B : Nat} {w0 : Base} {L L' : List Rg}

/-- the address of an element of a view -/
theorem Plan.idxV {t : TypeId} {x y : Operand} {k : IntKind} {ix len cc j : Nat} {a : Option Addr} {X : List Byte} (hX : Bx L ix a len cc X) (ha : slB P t 1 = true) (hg : wantedE n e g = true) (hx : ev n e x = .slice a len cc) (hy : ev n e y = .int k (j : Int)) (hj : j < len)
    (h : Plan P n K l O (upd e d (.pointer (a.map fun z => ⟨z.block, z.off + j, none⟩))) w) : Plan P n K (⟨i, true, ⟨some d, .indexAddr t x y, ty, pos, aft, gd⟩, g⟩ :: l) O e w := by
  obtain ⟨hl, hc, hX⟩ := hX
  obtain ⟨offs, ms, js, os, ps, G, rw, h1, h2, h3⟩ := hX (by omega)
  obtain ⟨b, hb1, hb2⟩ := h2 (by omega)
  subst hb2
  exact Plan.idxSl1 ha hg hx hy hj h
theorem Plan.loadV (hst : St B w0 L w) {t : TypeId} {x : Operand} {ix len cc j : Nat} {a : Option Addr} {X : List Byte} (hX : Bx L ix a len cc X) (hg : wantedE n e g = true) (hx : ev n e x = .pointer (a.map fun z => ⟨z.block, z.off + j, none⟩)) (hj : j < len) (ht : scalarT P t = true)
    (h : ∀ r, L[ix]? = some r → Plan P n K l ((i, r.at) :: O) (upd e d (VU .u8 (lit X j))) w) : Plan P n K (⟨i, true, ⟨some d, .load t x, ty, pos, aft, gd⟩, g⟩ :: l) O e w := by
  obtain ⟨hl, hc, hX⟩ := hX
  obtain ⟨offs, ms, js, os, ps, G, rw, h1, h2, h3, h4, h6⟩ := hX (by omega)
  obtain ⟨b, hb1, hb2⟩ := h2 (by omega)
  subst hb2 hb1
  have hx' : ev n e x = .pointer (some ⟨b, offs + (js + j), none⟩) := by rw [hx, ← Nat.add_assoc, ← h3]; rfl
  refine Plan.load1 hst ix hg hx' h1 (by omega) ht ?_
  have := h _ h1
  rw [h6 j hj] at this
  exact this
/-- an element of an own slice is set -/
theorem Plan.storeO (hst : St B w0 L w) {t : TypeId} {x y : Operand} {len cap j : Nat} {a : Option Addr} {pb : Option Nat} {F : Nat → Byte} {X : List Byte} {Y : Byte} (k : Nat) (hO : Ow a pb len cap F X) (hg : wantedE n e g = true) (hx : ev n e x = .pointer (a.map fun z => ⟨z.block, z.off + j, none⟩)) (hy : ev n e y = VU .u8 Y)
    (hL : L[k]? = some ⟨pb, 0, cap, fun q => VU .u8 (F q), true⟩) (hj : j < len) (ht : szT P t 1 = true) (hw : O.all (fun p => waitsO ⟨none, .store t x y, ty, pos, aft, gd⟩ p.1) = true)
    (h : ∀ w' F', Ow a pb len cap F' (X.set j Y) → St B w0 (L.set k ⟨pb, 0, cap, fun q => VU .u8 (F' q), true⟩) w' → Plan P n K l [] e w') : Plan P n K (⟨i, false, ⟨none, .store t x y, ty, pos, aft, gd⟩, g⟩ :: l) O e w := by
  have hOc := hO.hc
  obtain ⟨b, rfl, rfl⟩ := hO.ho.pos (by omega)
  refine Plan.storeU (off := 0) hst k hg (by rw [hx]; rfl) hy hL (by omega) ht hw fun w' h' => h w' _ ⟨hO.ho, hOc, by rw [List.length_set]; exact hO.hl, fun q hq => ?_⟩ h'
  have h1 := hO.hF q hq
  have h2 := hO.hl
  unfold lit at h1 ⊢
  rw [upd_at]
  by_cases hqj : q = j
  · subst hqj; rw [if_pos rfl, List.getD_eq_getElem?_getD, List.getElem?_set_self (by omega)]; rfl
  · rw [if_neg hqj, ← h1, List.getD_eq_getElem?_getD, List.getD_eq_getElem?_getD, List.getElem?_set_ne (Ne.symm hqj)]
/-- append of a view onto an own slice -/
theorem Plan.appendO (hst : St B w0 L w) {t t' sz : TypeId} {x y : Operand} {len cap m cy iy : Nat} {a ay : Option Addr} {pb : Option Nat} {F : Nat → Byte} {X Y : List Byte} (k : Nat) (hO : Ow a pb len cap F X) (he : elD P t = some (1, 1, some (VU .u8 0#8))) (ht' : slB P t' sz = true) (hg : wantedE n e g = true)
    (hx : ev n e x = .slice a len cap) (hy : ev n e y = .slice ay m cy) (hL : L[k]? = some ⟨pb, 0, cap, fun q => VU .u8 (F q), true⟩) (hY : Bx L iy ay m cy Y) (hb : len + m ≤ 140737488355328)
    (hw : ∀ r, EffO aft O (L.set k r) O')
    (h : ∀ a' pb' cap' (F' : Nat → Byte) w', Ow a' pb' (X ++ Y).length cap' F' (X ++ Y) → St B w0 (L.set k ⟨pb', 0, cap', fun q => VU .u8 (F' q), true⟩) w' → Plan P n K l O' (updO e (some d) (.slice a' (X ++ Y).length cap')) w') :
    Plan P n K (⟨i, false, ⟨some d, .call ⟨.builtin .append, #[x, y], #[t, t']⟩, ty, pos, aft, gd⟩, g⟩ :: l) O e w :=
  Plan.appendL hst k he ht' hg hx hy hL hO.ho hO.hc hO.hl hO.hF (hY.bs' k hL) hY.hl hb hw fun a' pb' cap' F' w' h1 h2 h3 h4 => h a' pb' cap' F' w' ⟨h1, h2, rfl, h3⟩ h4
theorem St.nilR (h : St B w0 L w) : St B w0 (⟨none, 0, 0, fun q => VU .u8 ((fun _ => 0#8 : Nat → Byte) q), true⟩ :: L) w := h.ownNil
end step
end Go.LW

/-
  ENGINE X, PART 2 (own work): further steps: bits of ints, bools compared, slices of views, slices made, arrays out of views, views of views, calls of closures.
-/
namespace Go.LW
set_option linter.unusedSimpArgs false
set_option linter.unusedVariables false
set_option linter.unusedSectionVars false
open Go Go.RowKit

section step
variable {P : Program} {n : Nat} {K : Pend → Env → World → Prop} {l : List It} {O O' : Pend} {e : Env} {w : World} {i ty : Nat} {d : Tmp} {pos : String} {aft : Array Edge} {gd g : Option (Nat × Bool)}
variable {B : Nat} {w0 : Base} {L L' : List Rg}

/-! bits of ints that are not below 0 -/
def bvopN (op : BinOp) (a b : Nat) : Nat := match op with | .and => a &&& b | .or => a ||| b | _ => a ^^^ b
theorem Plan.bitsN {op : BinOp} {t yt : TypeId} {x y : Operand} {a b : Nat} (hg : wantedE n e g = true) (hx : ev n e x = VN a) (hy : ev n e y = VN b) (ha : a < 9223372036854775808) (hb : b < 9223372036854775808) (hop : op = .and ∨ op = .or ∨ op = .xor)
    (h : Plan P n K l O (upd e d (VN (bvopN op a b))) w) : Plan P n K (⟨i, true, ⟨some d, .binOp op t x y yt, ty, pos, aft, gd⟩, g⟩ :: l) O e w :=
  Plan.val hg (fun w => run_bin hx hy (by
    have key : ∀ Z : BitVec 64, Z.toNat < 9223372036854775808 → (Sem.pure (Value.int .i64 (IntKind.i64.wrap Z.toNat))).run P w = .ok (VN Z.toNat) w := fun Z hZ => by
      rw [wrap_i64_in _ (by omega)]; rfl
    have e1 : (BitVec.ofNat 64 a).toNat = a := by simp only [BitVec.toNat_ofNat]; omega
    have e2 : (BitVec.ofNat 64 b).toNat = b := by simp only [BitVec.toNat_ofNat]; omega
    have h63 : ∀ z : Nat, z < 9223372036854775808 ↔ z < 2 ^ 63 := fun z => by omega
    rcases hop with rfl | rfl | rfl <;> simp only [binOp, ne_eq, not_true_eq_false, if_false, Op.intBits, BitVec.ofInt_natCast]
    · have e3 : (BitVec.ofNat 64 a &&& BitVec.ofNat 64 b).toNat = a &&& b := by rw [BitVec.toNat_and, e1, e2]
      refine (key (BitVec.ofNat 64 a &&& BitVec.ofNat 64 b) ?_).trans ?_
      · rw [e3]; rw [h63] at *; exact Nat.and_lt_two_pow _ hb
      · rw [e3]; rfl
    · have e3 : (BitVec.ofNat 64 a ||| BitVec.ofNat 64 b).toNat = a ||| b := by rw [BitVec.toNat_or, e1, e2]
      refine (key (BitVec.ofNat 64 a ||| BitVec.ofNat 64 b) ?_).trans ?_
      · rw [e3]; rw [h63] at *; exact Nat.or_lt_two_pow ha hb
      · rw [e3]; rfl
    · have e3 : (BitVec.ofNat 64 a ^^^ BitVec.ofNat 64 b).toNat = a ^^^ b := by rw [BitVec.toNat_xor, e1, e2]
      refine (key (BitVec.ofNat 64 a ^^^ BitVec.ofNat 64 b) ?_).trans ?_
      · rw [e3]; rw [h63] at *; exact Nat.xor_lt_two_pow ha hb
      · rw [e3]; rfl)) h
theorem Plan.andN {t yt : TypeId} {x y : Operand} {a b : Nat} (hg : wantedE n e g = true) (hx : ev n e x = VN a) (hy : ev n e y = VN b) (hb : a < 9223372036854775808 ∧ b < 9223372036854775808)
    (h : Plan P n K l O (upd e d (VN (a &&& b))) w) : Plan P n K (⟨i, true, ⟨some d, .binOp .and t x y yt, ty, pos, aft, gd⟩, g⟩ :: l) O e w := Plan.bitsN hg hx hy hb.1 hb.2 (by simp) h
theorem Plan.orN {t yt : TypeId} {x y : Operand} {a b : Nat} (hg : wantedE n e g = true) (hx : ev n e x = VN a) (hy : ev n e y = VN b) (hb : a < 9223372036854775808 ∧ b < 9223372036854775808)
    (h : Plan P n K l O (upd e d (VN (a ||| b))) w) : Plan P n K (⟨i, true, ⟨some d, .binOp .or t x y yt, ty, pos, aft, gd⟩, g⟩ :: l) O e w := Plan.bitsN hg hx hy hb.1 hb.2 (by simp) h
theorem Plan.xorN {t yt : TypeId} {x y : Operand} {a b : Nat} (hg : wantedE n e g = true) (hx : ev n e x = VN a) (hy : ev n e y = VN b) (hb : a < 9223372036854775808 ∧ b < 9223372036854775808)
    (h : Plan P n K l O (upd e d (VN (a ^^^ b))) w) : Plan P n K (⟨i, true, ⟨some d, .binOp .xor t x y yt, ty, pos, aft, gd⟩, g⟩ :: l) O e w := Plan.bitsN hg hx hy hb.1 hb.2 (by simp) h

/-! bools compared -/
def boolB (P : Program) (t : Nat) : Bool := match P.underlying t with | some .bool => true | _ => false
theorem run_equalBool {t : TypeId} (ht : boolB P t = true) (a b : Bool) (w : World) : (Op.equal t (.bool a) (.bool b)).run P w = .ok (a == b) w := by
  have hu : P.underlying t = some .bool := by
    unfold boolB at ht
    split at ht
    · assumption
    · cases ht
  unfold Op.equal
  rw [show Op.maxDepth = 9999 + 1 by rfl]
  unfold Op.equalIn
  simp [run_underlying hu]
theorem Plan.eqBoolV {t yt : TypeId} {x y : Operand} {a b v : Bool} (ht : boolB P t = true) (hg : wantedE n e g = true) (hx : ev n e x = .bool a) (hy : ev n e y = .bool b) (hv : (a == b) = v)
    (h : Plan P n K l O (upd e d (.bool v)) w) : Plan P n K (⟨i, true, ⟨some d, .binOp .eql t x y yt, ty, pos, aft, gd⟩, g⟩ :: l) O e w := Plan.val hg (fun w => by
    refine run_v ?_
    rw [hx, hy, ← hv]
    have h0 := run_equalBool (P := P) ht a b w
    simp [eqGuard, binOp, h0]) h
theorem Plan.neBoolV {t yt : TypeId} {x y : Operand} {a b v : Bool} (ht : boolB P t = true) (hg : wantedE n e g = true) (hx : ev n e x = .bool a) (hy : ev n e y = .bool b) (hv : (a != b) = v)
    (h : Plan P n K l O (upd e d (.bool v)) w) : Plan P n K (⟨i, true, ⟨some d, .binOp .neq t x y yt, ty, pos, aft, gd⟩, g⟩ :: l) O e w := Plan.val hg (fun w => by
    refine run_v ?_
    rw [hx, hy, ← hv]
    have h0 := run_equalBool (P := P) ht a b w
    simp [eqGuard, binOp, h0, bne]) h
theorem Plan.eqStrV {t yt : TypeId} {x y : Operand} {X Y : List Byte} {v : Bool} (hg : wantedE n e g = true) (hx : ev n e x = .string (strL X)) (hy : ev n e y = .string (strL Y)) (hv : decide (X = Y) = v)
    (h : Plan P n K l O (upd e d (.bool v)) w) : Plan P n K (⟨i, true, ⟨some d, .binOp .eql t x y yt, ty, pos, aft, gd⟩, g⟩ :: l) O e w := Plan.eqStr hg hx hy (by rw [hv]; exact h)
theorem Plan.neStrV {t yt : TypeId} {x y : Operand} {X Y : List Byte} {v : Bool} (hg : wantedE n e g = true) (hx : ev n e x = .string (strL X)) (hy : ev n e y = .string (strL Y)) (hv : decide (X = Y) = v)
    (h : Plan P n K l O (upd e d (.bool (!v))) w) : Plan P n K (⟨i, true, ⟨some d, .binOp .neq t x y yt, ty, pos, aft, gd⟩, g⟩ :: l) O e w := Plan.val hg (fun w => run_stringOp hx hy (by
      unfold Op.stringOp
      show (pure (Value.bool ((strL X).toList != (strL Y).toList)) : Sem Value).run P w = _
      have h1 := toList_inj (A := strL X) (B := strL Y)
      have h2 : ((strL X).toList != (strL Y).toList) = !v := by
        rw [bne, h1, ← hv]; congr 1; exact decide_eq_decide.2 strL_inj
      rw [h2]; rfl) (.inr rfl)) h

/-! slices of views: a new view -/
theorem Plan.slV {t : TypeId} {x : Operand} {ix len cap lo hi : Nat} {a : Option Addr} {X : List Byte} {low high : Option Operand} (hX : Bx L ix a len cap X) (ha : slB P t 1 = true) (hg : wantedE n e g = true) (hx : ev n e x = .slice a len cap)
    (hlo : match low with | some y => ∃ k, ev n e y = .int k (lo : Int) | none => lo = 0) (hhi : match high with | some y => ∃ k, ev n e y = .int k (hi : Int) | none => hi = len) (hb : lo ≤ hi ∧ hi ≤ len)
    (h : ∀ a' c', Bx L ix a' (seg X lo hi).length c' (seg X lo hi) → Plan P n K l O (upd e d (.slice a' (seg X lo hi).length c')) w) : Plan P n K (⟨i, true, ⟨some d, .slice t x low high none, ty, pos, aft, gd⟩, g⟩ :: l) O e w := by
  have h1 := hX.seg hb
  have h2 : (seg X lo hi).length = hi - lo := h1.hl
  refine Plan.slSl ha hg hx hlo hhi (by have := hX.le; omega) ?_
  rw [← h2] at h1 ⊢
  exact h _ _ h1
/-- a slice of an array that is a variable, elements of one cell -/
theorem Plan.slArrO {t : TypeId} {x : Operand} {b o len lo hi m c o' : Nat} {low high : Option Operand} (ha : arrB P t len 1 = true) (hg : wantedE n e g = true) (hx : ev n e x = .pointer (some ⟨b, o, none⟩))
    (hlo : match low with | some y => ∃ k, ev n e y = .int k (lo : Int) | none => lo = 0) (hhi : match high with | some y => ∃ k, ev n e y = .int k (hi : Int) | none => hi = len) (hb : lo ≤ hi ∧ hi ≤ len ∧ lo < len) (hm : hi - lo = m) (hc : len - lo = c) (ho : o + lo = o')
    (h : Plan P n K l O (upd e d (.slice (some ⟨b, o', none⟩) m c)) w) : Plan P n K (⟨i, true, ⟨some d, .slice t x low high none, ty, pos, aft, gd⟩, g⟩ :: l) O e w :=
  Plan.slArr ha hg hx hlo hhi hb (by rw [Nat.mul_one, hm, hc, ho]; exact h)
/-- string(b) of a view -/
theorem Plan.toStrV (hst : St B w0 L w) {src dst el : TypeId} {x : Operand} {a : Option Addr} {ix len c : Nat} {X : List Byte} (hX : Bx L ix a len c X) (hs : P.underlying src = some (.slice el)) (he : P.underlying el = some (.int .u8)) (hd : P.underlying dst = some .string) (hg : wantedE n e g = true)
    (hx : ev n e x = .slice a len c) (h : ∀ r : Rg, (r.n = 0 ∨ L[ix]? = some r) → Plan P n K l ((i, r.at) :: O) (upd e d (.string (strL X))) w) :
    Plan P n K (⟨i, true, ⟨some d, .convert src dst x, ty, pos, aft, gd⟩, g⟩ :: l) O e w := by
  obtain ⟨hl, hc, h0⟩ := hX
  by_cases hn : 0 < len
  · obtain ⟨offs, ms, js, os, ps, G, rw, h1, h2, h3, h4, h6⟩ := h0 hn
    have hr := h _ (.inr h1)
    refine Plan.held _ hg (hst.mem h1) (fun w hw => run_v ?_) hr
    rw [hx]
    obtain ⟨b, hp, ha⟩ := h2 hn
    subst ha
    refine run_convert_bytes_arg w src el hs he b os len c (X.map fun b => (b.toNat : Int)) (by simpa using hl) (fun q hq => ?_) dst hd
    obtain ⟨b', hp', hc'⟩ := hw (js + q) (show js + q < ms by omega)
    simp only at hp'
    rw [hp] at hp'
    obtain rfl := Option.some.inj hp'
    rw [h3, Nat.add_assoc]
    rw [hc']
    show some (VU .u8 (G (js + q))) = _
    rw [← h6 q hq]
    congr 1
    unfold lit
    simp only [List.getD_eq_getElem?_getD, List.getElem?_map]
    rw [List.getElem?_eq_getElem (by omega)]
    simp
  · obtain rfl : len = 0 := by omega
    obtain rfl := List.length_eq_zero_iff.1 hl
    have hr := h ⟨none, 0, 0, fun _ => undef, true⟩ (.inl rfl)
    refine Plan.held _ hg (fun j hj => absurd hj (Nat.not_lt_zero j)) (fun w hw => run_v ?_) hr
    rw [hx, run_convert_bytes_string w src dst el _ 0 c hs he hd]
    cases a <;> simp [Conv.bytesToString, loadCells]
    all_goals rfl

/-! slices made -/
theorem Plan.makeO (hst : St B w0 L w) {t : TypeId} {x y : Operand} {len c : Nat} {k k' : IntKind} (he : elD P t = some (1, 1, some (VU .u8 0#8))) (hg : wantedE n e g = true) (hx : ev n e x = .int k (len : Int)) (hy : ev n e y = .int k' (c : Int)) (hlc : len ≤ c) (hc : c ≤ 281474976710656)
    (hO : ∀ r, EffO aft O (r :: L) O')
    (h : ∀ b w', B ≤ b → Ow (some ⟨b, 0, none⟩) (some b) (List.replicate len 0#8).length c (fun _ => 0#8) (List.replicate len 0#8) → St B w0 (⟨some b, 0, c, fun q => VU .u8 ((fun _ => 0#8 : Nat → Byte) q), true⟩ :: L) w' → Plan P n K l O' (updO e (some d) (.slice (some ⟨b, 0, none⟩) (List.replicate len 0#8).length c)) w') :
    Plan P n K (⟨i, false, ⟨some d, .makeSlice t x y, ty, pos, aft, gd⟩, g⟩ :: l) O e w := by
  obtain ⟨el, inf, hu, hi, hs, hby, hz⟩ := elB_of he
  have hr := run_make (P := P) w t el inf _ hu hi hz k k' len c (Int.natCast_nonneg _) (by omega) (by rw [hby]; omega) (by omega)
  have hm : madeCells (VU .u8 0#8 : Value).cells ((c : Int).toNat * inf.size) = (catL [(c, fun _ => VU .u8 0#8)]).toArray := by
    rw [hs, Int.toNat_natCast, Nat.mul_one, catL_one]
    show madeCells #[VU .u8 0#8] c = _
    unfold madeCells
    apply Array.ext'
    apply List.ext_getElem?
    intro q
    by_cases hq : q < c
    · simp [hq, Nat.mod_one]
    · simp [hq]
  rw [hm] at hr
  have hO2 : Ow (some ⟨w.heap.size, 0, none⟩) (some w.heap.size) (List.replicate len 0#8).length c (fun _ => 0#8) (List.replicate len 0#8) := by
    refine ⟨.inr ⟨_, rfl, rfl⟩, by rw [List.length_replicate]; exact hlc, rfl, fun q hq => ?_⟩
    unfold lit
    rw [List.getD_eq_getElem?_getD, List.getElem?_replicate]
    split <;> rfl
  refine Plan.effS (w' := w.alloc (.cells (catL [(c, fun _ => VU .u8 0#8)]).toArray el)) (v := .slice (some ⟨w.heap.size, 0, none⟩) (List.replicate len 0#8).length c) hg (run_v ?_) (hst.alloc [(c, fun _ => VU .u8 0#8)] el) (hO _) (fun w' hw' => h _ w' hst.base hO2 hw')
  rw [hx, hy, hr]
  simp

/-! an array out of a view -/
theorem Plan.sl2arrV {t : TypeId} {x : Operand} {ix m len cap : Nat} {a : Option Addr} {X : List Byte} {el : TypeId} (hX : Bx L ix a len cap X) (hu : P.underlying t = some (.array m el)) (hg : wantedE n e g = true) (hx : ev n e x = .slice a len cap) (hm : 0 < m ∧ m ≤ len)
    (h : Plan P n K l O (upd e d (.pointer a)) w) : Plan P n K (⟨i, true, ⟨some d, .sliceToArrayPointer t x, ty, pos, aft, gd⟩, g⟩ :: l) O e w := by
  obtain ⟨hl, hc, h0⟩ := hX
  obtain ⟨offs, ms, js, os, ps, G, rw, h1, h2, h3, h4, h6⟩ := h0 (by omega)
  obtain ⟨b, hp, ha⟩ := h2 (by omega)
  subst ha
  exact Plan.sl2arr (o := os) (b := b) hu hg hx (fun _ => ⟨b, rfl, rfl⟩) hm h
theorem Plan.loadAV (hst : St B w0 L w) {t : TypeId} {x : Operand} {ix m len cc : Nat} {a : Option Addr} {X : List Byte} (hX : Bx L ix a len cc X) (hg : wantedE n e g = true) (hx : ev n e x = .pointer a) (hm : 0 < m ∧ m ≤ len) (ht : aggT P t m = true)
    (h : ∀ r, L[ix]? = some r → Plan P n K l ((i, r.at) :: O) (upd e d (AG [(m, fun q => VU .u8 (lit X q))])) w) : Plan P n K (⟨i, true, ⟨some d, .load t x, ty, pos, aft, gd⟩, g⟩ :: l) O e w := by
  obtain ⟨hl, hc, h0⟩ := hX
  obtain ⟨offs, ms, js, os, ps, G, rw, h1, h2, h3, h4, h6⟩ := h0 (by omega)
  obtain ⟨b, hp, ha⟩ := h2 (by omega)
  subst ha hp
  refine Plan.loadSub hst ix js hg hx h1 h3 (by omega) ht ?_
  have h7 := h _ h1
  have e1 : AG [(m, fun q => VU .u8 (G (js + q)))] = AG [(m, fun q => VU .u8 (lit X q))] := by
    unfold AG
    rw [catL_one, catL_one]
    congr 2
    exact List.map_congr_left fun q hq => by rw [h6 q (by have := List.mem_range.1 hq; omega)]
  rw [e1]
  exact h7

/-! a literal without parts: the zero -/
def rowB (P : Program) (t : Nat) : Bool := match P.underlying t with
  | some (.struct fs) => fs.toList.all fun f => match P.info? f.type with | some i => decide (i.size < 1000000) | none => false
  | some (.array _ el) => (match P.info? el with | some i => i.size < 1000000 | none => false)
  | _ => false
theorem Plan.buildZ {t : TypeId} {zps : List (Nat × (Nat → Value))} (ht : rowB P t = true) (hz : zeroIs P t zps) (hg : wantedE n e g = true)
    (h : Plan P n K l O (upd e d (AG zps)) w) : Plan P n K (⟨i, true, ⟨some d, .build t #[], ty, pos, aft, gd⟩, g⟩ :: l) O e w := by
  cases hu : P.underlying t with
  | none => unfold rowB at ht; rw [hu] at ht; cases ht
  | some u =>
    unfold rowB at ht
    rw [hu] at ht
    cases u with
    | array len el =>
      cases hi : P.info? el with
      | none => simp only [hi] at ht; cases ht
      | some inf => exact Plan.buildArr (len := len) (sz := inf.size) (zps := zps) (ps := zps) (vs := []) (by unfold arrB; rw [hu]; simp [szT, hi]) hz hg rfl rfl h
    | struct fs =>
      refine Plan.buildStr (zps := zps) (ps := zps) (vs := []) (pl := fs.toList.map (fun f => (f.offset, match P.info? f.type with | some i => i.size | none => 1000000007))) (by unfold placesB; rw [hu]; exact beq_self_eq_true _) ?_ hz hg rfl rfl h
      simp only [List.all_eq_true] at ht
      simp only [List.all_eq_true, List.mem_map]
      rintro q ⟨f, hf, rfl⟩
      have h1 := ht f hf
      cases hi : P.info? f.type with
      | none => rw [hi] at h1; cases h1
      | some inf => rw [hi] at h1; simpa using h1
    | _ => cases ht

/-! a closure called: what it has captured is handed in behind the arguments -/
theorem Plan.makeF {f : FuncId} {captured : Array Operand} {cs : List Value} (hg : wantedE n e g = true) (hc : captured.toList.map (ev n e) = cs) (h : Plan P n K l O (upd e d (.func (.func f) #[] cs.toArray)) w) :
    Plan P n K (⟨i, true, ⟨some d, .makeFunc (.func f) #[] captured, ty, pos, aft, gd⟩, g⟩ :: l) O e w :=
  Plan.val hg (fun w => run_v (by
    have : captured.map (ev n e) = cs.toArray := by rw [← hc, ← Array.toList_map]
    rw [this]; simp [Instr.makeFunc])) h
theorem run_callF {x : Operand} {f : FuncId} {ρ : Operand → Value} {args : Array Operand} {at' : Array TypeId} {dst : Option Tmp} {cs : Array Value} (hok : callB P f = true) (hx : ρ x = .func (.func f) #[] cs) (w : World) :
    (execOp ρ ⟨dst, .call ⟨.value x, args, at'⟩, ty, pos, aft, gd⟩).run P w = .ok (.enter f (args.map ρ ++ cs)) w := by
  unfold callB at hok
  cases hf : P.funcs[f]? with
  | none => rw [hf] at hok; cases hok
  | some fn =>
    rw [hf] at hok
    simp only [Bool.and_eq_true, Bool.not_eq_true'] at hok
    simp only [execOp, resolve, hx, Deferred.ofValue, Sem.run_bind, Sem.run_pure, Result.andThen, invoke, callFunc, run_program, hf, hok.1, hok.2, Bool.false_eq_true, if_false]
    simp
theorem Plan.callF {x : Operand} {f : FuncId} {args : Array Operand} {at' : Array TypeId} {dst : Option Tmp} {vs cs : List Value} {R : Ending → World → Prop} (hx : ev n e x = .func (.func f) #[] cs.toArray) (hg : wantedE n e g = true) (hok : callB P f = true) (hargs : args.toList.map (ev n e) = vs)
    (hc : Calls P f (vs ++ cs).toArray w R)
    (hR : ∀ x' w', R x' w' → ∃ v, x' = .returned v ∧ (((∀ p ∈ O, p.2 w → p.2 w') ∧ Plan P n K l O (updO e dst v) w') ∨ (O.all (fun p => waitsO ⟨dst, .call ⟨.value x, args, at'⟩, ty, pos, aft, gd⟩ p.1) = true ∧ Plan P n K l [] (updO e dst v) w'))) :
    Plan P n K (⟨i, false, ⟨dst, .call ⟨.value x, args, at'⟩, ty, pos, aft, gd⟩, g⟩ :: l) O e w := by
  refine Plan.eff hg ?_
  rw [run_callF (P := P) hok hx w]
  show Calls P f (args.map (ev n e) ++ cs.toArray) w _
  have : args.map (ev n e) ++ cs.toArray = (vs ++ cs).toArray := by
    rw [← hargs, List.append_toArray, ← Array.toList_map]
  rw [this]
  exact hc.mono hR
end step
end Go.LW

/-
  ENGINE X, PART 3 (own work): parts of values; strings; slices of slices of bytes.
-/
namespace Go.LW
set_option linter.unusedSimpArgs false
set_option linter.unusedVariables false
set_option linter.unusedSectionVars false
open Go Go.RowKit

section step
variable {P : Program} {n : Nat} {K : Pend → Env → World → Prop} {l : List It} {O O' : Pend} {e : Env} {w : World} {i ty : Nat} {d : Tmp} {pos : String} {aft : Array Edge} {gd g : Option (Nat × Bool)}
variable {B : Nat} {w0 : Base} {L L' : List Rg}

theorem run_isAgg {t : TypeId} {m : Nat} (ht : aggT P t m = true) (w : World) : (isAgg t).run P w = .ok true w := by
  obtain ⟨dsc, hu, hr, _⟩ := aggT_spec ht
  unfold isAgg
  rw [Sem.run_bind, run_underlying hu w]
  cases dsc <;> first | rfl | cases hr
theorem run_isAggN {t : TypeId} (ht : scalarT P t = true) (w : World) : (isAgg t).run P w = .ok false w := by
  unfold scalarT at ht
  unfold isAgg
  cases hu : P.underlying t with
  | none => rw [hu] at ht; cases ht
  | some dd =>
    rw [Sem.run_bind, run_underlying hu w]
    rw [hu] at ht
    cases dd <;> first | rfl | cases ht
theorem aggT_sz {t : TypeId} {m : Nat} (ht : aggT P t m = true) : szT P t m = true := by
  unfold aggT at ht; unfold szT
  simp only [Bool.and_eq_true] at ht; exact ht.2
theorem extract_mid (A C D : List Value) : (A ++ C ++ D).toArray.extract A.length (A.length + C.length) = C.toArray := by
  apply Array.ext'
  rw [List.append_assoc]
  simp
theorem run_partA {t : TypeId} {m : Nat} (ht : aggT P t m = true) {cs A C D : List Value} (hc : cs = A ++ C ++ D) (hm : C.length = m) (w : World) : (part t cs.toArray A.length).run P w = .ok (.agg C.toArray) w := by
  subst hc
  unfold part
  rw [Sem.run_bind, run_isAgg ht w]
  simp only [Result.andThen, if_true]
  rw [Sem.run_bind, szT_spec (aggT_sz ht) w]
  simp only [Result.andThen, Sem.run_pure]
  rw [← hm, extract_mid]
theorem range_split (a b c : Nat) (f : Nat → Value) : (List.range (a + b + c)).map f = (List.range a).map f ++ (List.range b).map (fun q => f (a + q)) ++ (List.range c).map (fun q => f (a + b + q)) := by
  rw [List.range_add, List.range_add, List.map_append, List.map_append, List.map_map, List.map_map]; rfl
/-- an element of many cells of an array that is a value -/
theorem Plan.indexAA {x y : Operand} {t : TypeId} {len m j sz : Nat} {f : Nat → Value} {k : IntKind} {el : TypeId} (hu : P.underlying t = some (.array len el)) (hs : aggT P el sz = true) (hg : wantedE n e g = true)
    (hx : ev n e x = AG [(m, f)]) (hy : ev n e y = .int k (j : Int)) (hj : j < len) (hm : len * sz ≤ m) (h : Plan P n K l O (upd e d (AG [(sz, fun q => f (j * sz + q))])) w) : Plan P n K (⟨i, true, ⟨some d, .index t x y, ty, pos, aft, gd⟩, g⟩ :: l) O e w :=
  Plan.val hg (fun w => run_v (by
    rw [hx, hy]
    have hc : (0 : Int) ≤ (j : Int) ∧ (j : Int) < (len : Int) := by omega
    have h1 : j * sz + sz ≤ m := Nat.le_trans (by rw [← Nat.succ_mul]; exact Nat.mul_le_mul_right _ hj) hm
    have hp := run_partA hs (cs := catL [(m, f)]) (A := (List.range (j * sz)).map f) (C := (List.range sz).map fun q => f (j * sz + q)) (D := (List.range (m - (j * sz + sz))).map fun q => f (j * sz + sz + q)) (by
      rw [catL_one, ← range_split]; congr 2; omega) (by simp) w
    simp only [List.length_map, List.length_range] at hp
    simp only [AG, Instr.index, asIntOf, Sem.run_bind, Sem.run_pure, Result.andThen, run_underlying hu w, if_pos hc, szT_spec (aggT_sz hs), Int.toNat_natCast]
    rw [hp, catL_one])) h

/-! fields of values -/
def fieldAtB (P : Program) (t : TypeId) (f off : Nat) (ft : TypeId) : Bool := match P.underlying t with
  | some (.struct fs) => match fs[f]? with
    | some fd => fd.offset == off && fd.type == ft
    | none => false
  | _ => false
theorem sum_catL (ps : List (Nat × (Nat → Value))) : (catL ps).length = (ps.map (·.1)).sum := catL_length ps
theorem catL_app (A C : List (Nat × (Nat → Value))) : catL (A ++ C) = catL A ++ catL C := by unfold catL; rw [List.flatMap_append]
theorem run_field {t ft : TypeId} {f off : Nat} (hf : fieldAtB P t f off ft = true) {cs : Array Value} {v : Value} {w : World} (h : (part ft cs off).run P w = .ok v w) : (Instr.field t (.agg cs) f).run P w = .ok v w := by
  unfold fieldAtB at hf
  cases hu : P.underlying t with
  | none => rw [hu] at hf; cases hf
  | some dd =>
    rw [hu] at hf
    cases dd <;> try (cases hf; done)
    rename_i fs
    simp only at hf
    cases hfd : fs[f]? with
    | none => rw [hfd] at hf; cases hf
    | some fd =>
      rw [hfd] at hf
      simp only [Bool.and_eq_true, beq_iff_eq] at hf
      obtain ⟨h1, h2⟩ := hf
      unfold Instr.field
      rw [Sem.run_bind, run_underlying hu w]
      simp only [Result.andThen, hfd]
      rw [Sem.run_bind]
      show Result.andThen (.ok cs w) _ = _
      simp only [Result.andThen]
      rw [h1, h2]; exact h
theorem Plan.fieldA {t ft : TypeId} {x : Operand} {f off : Nat} {ps1 ps2 ps3 : List (Nat × (Nat → Value))} (hf : fieldAtB P t f off ft = true) (hs : aggT P ft (ps2.map (·.1)).sum = true) (hg : wantedE n e g = true) (hx : ev n e x = AG (ps1 ++ ps2 ++ ps3)) (ho : (ps1.map (·.1)).sum = off)
    (h : Plan P n K l O (upd e d (AG ps2)) w) : Plan P n K (⟨i, true, ⟨some d, .field t x f, ty, pos, aft, gd⟩, g⟩ :: l) O e w :=
  Plan.val hg (fun w => run_v (by
    rw [hx]
    refine run_field hf ?_
    rw [catL_app, catL_app, ← ho, ← catL_length]
    exact run_partA hs rfl (catL_length _) w)) h
theorem Plan.fieldS {t ft : TypeId} {x : Operand} {f off : Nat} {ps1 ps3 : List (Nat × (Nat → Value))} {F : Nat → Value} {v : Value} (hf : fieldAtB P t f off ft = true) (hs : scalarT P ft = true) (hg : wantedE n e g = true) (hx : ev n e x = AG (ps1 ++ [(1, F)] ++ ps3)) (ho : (ps1.map (·.1)).sum = off) (hv : F 0 = v)
    (h : Plan P n K l O (upd e d v) w) : Plan P n K (⟨i, true, ⟨some d, .field t x f, ty, pos, aft, gd⟩, g⟩ :: l) O e w :=
  Plan.val hg (fun w => run_v (by
    rw [hx]
    refine run_field hf ?_
    unfold part
    rw [Sem.run_bind, run_isAggN hs w]
    have : (catL (ps1 ++ [(1, F)] ++ ps3)).toArray[off]? = some v := by
      rw [catL_app, catL_app, ← ho, ← catL_length]
      simp [catL_one, hv]
    simp only [Result.andThen, Bool.false_eq_true, if_false, this, Sem.run_pure])) h

/-! slices of slices of bytes -/
def Bss (L : List Rg) (ix : Nat) (a : Option Addr) (len cc : Nat) (X : List (List Byte)) : Prop :=
  X.length = len ∧ len ≤ cc ∧ (0 < len → ∃ (offs ms js b : Nat) (A : Nat → Option Addr) (N C : Nat → Nat) (rw : Bool), L[ix]? = some ⟨some b, offs, ms, fun q => .slice (A q) (N q) (C q), rw⟩ ∧ a = some ⟨b, offs + js, none⟩ ∧ js + len ≤ ms ∧ ∀ q, q < len → ∃ iy, Bx L iy (A (js + q)) (N (js + q)) (C (js + q)) (X.getD q []))
theorem Bss.hl {L : List Rg} {ix : Nat} {a : Option Addr} {len cc : Nat} {X : List (List Byte)} (h : Bss L ix a len cc X) : X.length = len := h.1
theorem Bss.nil {L : List Rg} (ix : Nat) {a : Option Addr} {cc : Nat} : Bss L ix a 0 cc [] := ⟨rfl, Nat.zero_le _, fun h => absurd h (Nat.lt_irrefl 0)⟩
theorem Bss.app {L : List Rg} {ix : Nat} {a : Option Addr} {len cc : Nat} {X : List (List Byte)} (h : Bss L ix a len cc X) (D : List Rg) : Bss (D ++ L) (ix + D.length) a len cc X := by
  obtain ⟨hl, hc, h⟩ := h
  refine ⟨hl, hc, fun hn => ?_⟩
  obtain ⟨offs, ms, js, b, A, N, C, rw, h1, h2, h3, h4⟩ := h hn
  refine ⟨offs, ms, js, b, A, N, C, rw, ?_, h2, h3, fun q hq => ?_⟩
  · rw [List.getElem?_append_right (by omega), Nat.add_sub_cancel]; exact h1
  · obtain ⟨iy, hy⟩ := h4 q hq; exact ⟨_, hy.app D⟩
theorem Bss.of {L : List Rg} (k : Nat) {b m : Nat} {A : Nat → Option Addr} {N C : Nat → Nat} {rw : Bool} {X : List (List Byte)} (h : L[k]? = some ⟨some b, 0, m, fun q => .slice (A q) (N q) (C q), rw⟩) (hl : X.length = m) (hx : ∀ q, q < m → ∃ iy, Bx L iy (A q) (N q) (C q) (X.getD q [])) : Bss L k (some ⟨b, 0, none⟩) m m X :=
  ⟨hl, Nat.le_refl _, fun _ => ⟨0, m, 0, b, A, N, C, rw, h, rfl, by omega, fun q hq => by rw [Nat.zero_add]; exact hx q hq⟩⟩
theorem Plan.idxBss {t : TypeId} {x y : Operand} {k : IntKind} {ix len cc j : Nat} {a : Option Addr} {X : List (List Byte)} (hX : Bss L ix a len cc X) (ha : slB P t 1 = true) (hg : wantedE n e g = true) (hx : ev n e x = .slice a len cc) (hy : ev n e y = .int k (j : Int)) (hj : j < len)
    (h : Plan P n K l O (upd e d (.pointer (a.map fun z => ⟨z.block, z.off + j, none⟩))) w) : Plan P n K (⟨i, true, ⟨some d, .indexAddr t x y, ty, pos, aft, gd⟩, g⟩ :: l) O e w := by
  obtain ⟨hl, hc, hX⟩ := hX
  obtain ⟨offs, ms, js, b, A, N, C, rw, h1, h2, h3⟩ := hX (by omega)
  subst h2
  exact Plan.idxSl1 ha hg hx hy hj h
theorem Plan.loadBss {D : List Rg} (hst : St B w0 (D ++ L) w) {t : TypeId} {x : Operand} {ix len cc j : Nat} {a : Option Addr} {X : List (List Byte)} (hX : Bss L ix a len cc X) (hg : wantedE n e g = true) (hx : ev n e x = .pointer (a.map fun z => ⟨z.block, z.off + j, none⟩)) (hj : j < len) (ht : scalarT P t = true)
    (h : ∀ r iy a' c', (D ++ L)[ix + D.length]? = some r → Bx L iy a' (X.getD j []).length c' (X.getD j []) → Plan P n K l ((i, r.at) :: O) (upd e d (.slice a' (X.getD j []).length c')) w) : Plan P n K (⟨i, true, ⟨some d, .load t x, ty, pos, aft, gd⟩, g⟩ :: l) O e w := by
  obtain ⟨hl, hc, hX⟩ := hX
  obtain ⟨offs, ms, js, b, A, N, C, rw, h1, h2, h3, h4⟩ := hX (by omega)
  subst h2
  obtain ⟨iy, hy⟩ := h4 j hj
  have hx' : ev n e x = .pointer (some ⟨b, offs + (js + j), none⟩) := by rw [hx, ← Nat.add_assoc]; rfl
  have h1' : (D ++ L)[ix + D.length]? = some ⟨some b, offs, ms, fun q => .slice (A q) (N q) (C q), rw⟩ := by rw [List.getElem?_append_right (by omega), Nat.add_sub_cancel]; exact h1
  refine Plan.load1 hst _ hg hx' h1' (by omega) ht ?_
  have hl2 := hy.hl
  have := h _ iy (A (js + j)) (C (js + j)) h1' (by rw [← hl2] at hy; exact hy)
  rw [hl2] at this
  exact this
/-! a struct's literal, part by part -/
theorem writeL_mid (Y : List Value) : ∀ (A Z C : List Value), Y.length = Z.length → writeL (A ++ Z ++ C) A.length Y = A ++ Y ++ C := by
  induction Y with
  | nil => intro A Z C h; obtain rfl := List.length_eq_zero_iff.1 h.symm; rfl
  | cons y Y ih =>
    intro A Z C h
    cases Z with
    | nil => simp at h
    | cons z Z =>
      have h1 : (A ++ z :: Z ++ C).set A.length y = (A ++ [y]) ++ Z ++ C := by simp
      show writeL ((A ++ z :: Z ++ C).set A.length y) (A.length + 1) Y = _
      rw [h1]
      have h2 := ih (A ++ [y]) Z C (by simpa using h)
      rw [List.length_append] at h2
      rw [show A.length + 1 = A.length + [y].length from rfl, h2]
      simp
abbrev PS := List (Nat × (Nat → Value))
inductive FillP (pl : List (Nat × Nat)) : PS → List (Nat × Value) → PS → Prop
  | nil {z : PS} : FillP pl z [] z
  | agg {i : Nat} {r : List (Nat × Value)} {ps : PS} (A Z C Y : PS) (h : pl[i]? = some ((A.map (·.1)).sum, (Z.map (·.1)).sum)) (hs : (Y.map (·.1)).sum = (Z.map (·.1)).sum) (t : FillP pl (A ++ Y ++ C) r ps) : FillP pl (A ++ Z ++ C) ((i, AG Y) :: r) ps
  | one {i : Nat} {r : List (Nat × Value)} {ps : PS} {v : Value} (A C : PS) (F : Nat → Value) (h : pl[i]? = some ((A.map (·.1)).sum, 1)) (hv : cellsL v = [v]) (t : FillP pl (A ++ [(1, fun _ => v)] ++ C) r ps) : FillP pl (A ++ [(1, F)] ++ C) ((i, v) :: r) ps
theorem fillStep {place : Nat → Option (Nat × Nat)} {A Z C Y : List Value} {i : Nat} {v : Value} {r : List (Nat × Value)} (h : place i = some (A.length, Z.length)) (hs : Y.length = Z.length) (hv : cellsL v = Y) : fillL place (A ++ Z ++ C) ((i, v) :: r) = fillL place (A ++ Y ++ C) r := by
  simp only [fillL, h, hv]
  have h1 : (Nat.beq Y.length Z.length && Nat.ble (A.length + Z.length) (A ++ Z ++ C).length) = true := by
    simp only [Bool.and_eq_true, Nat.beq_eq, Nat.ble_eq, List.length_append]; omega
  rw [h1, writeL_mid Y A Z C hs]; rfl
theorem FillP.fill {pl : List (Nat × Nat)} {z ps : PS} {vs : List (Nat × Value)} (h : FillP pl z vs ps) : fillL (fun i => pl[i]?) (catL z) vs = some (catL ps) := by
  induction h with
  | nil => rfl
  | agg A Z C Y h hs t ih =>
    rw [catL_app, catL_app] at ih ⊢
    rw [fillStep (Y := catL Y) (by rw [h, catL_length, catL_length]) (by rw [catL_length, catL_length, hs]) rfl]
    exact ih
  | @one i r ps v A C F h hv t ih =>
    rw [catL_app, catL_app] at ih ⊢
    rw [fillStep (A := catL A) (Z := catL [(1, F)]) (C := catL C) (Y := catL [(1, fun _ => v)]) (place := fun i => pl[i]?) (by simp only [h, catL_length]; rfl) rfl (by rw [hv]; rfl)]
    exact ih
theorem Plan.buildP {t : TypeId} {parts : Array (Nat × Operand)} {pl : List (Nat × Nat)} {zps ps : List (Nat × (Nat → Value))} {vs : List (Nat × Value)} (ha : placesB P t pl = true) (hpl : pl.all (fun q => q.2 < 1000000) = true) (hz : zeroIs P t zps) (hg : wantedE n e g = true)
    (hv : parts.toList.map (fun p => (p.1, ev n e p.2)) = vs) (hf' : FillP pl zps vs ps)
    (h : Plan P n K l O (upd e d (AG ps)) w) : Plan P n K (⟨i, true, ⟨some d, .build t parts, ty, pos, aft, gd⟩, g⟩ :: l) O e w := Plan.buildStr ha hpl hz hg hv hf'.fill h

/-! a view that is the same in another list of ranges -/
theorem Bx.unapp {L D : List Rg} {i : Nat} {a : Option Addr} {len cc : Nat} {X : List Byte} (h : Bx (D ++ L) (i + D.length) a len cc X) : Bx L i a len cc X := by
  obtain ⟨hl, hc, h⟩ := h
  refine ⟨hl, hc, fun hn => ?_⟩
  obtain ⟨offs, ms, js, os, ps, G, rw, h1, h2⟩ := h hn
  rw [List.getElem?_append_right (by omega), Nat.add_sub_cancel] at h1
  exact ⟨offs, ms, js, os, ps, G, rw, h1, h2⟩
theorem Bx.move {L L' : List Rg} {i j : Nat} {r : Rg} {a : Option Addr} {len cc : Nat} {X : List Byte} (h : Bx L i a len cc X) (hi : L[i]? = some r) (hj : L'[j]? = some r) : Bx L' j a len cc X := by
  obtain ⟨hl, hc, h⟩ := h
  refine ⟨hl, hc, fun hn => ?_⟩
  obtain ⟨offs, ms, js, os, ps, G, rw, h1, h2⟩ := h hn
  rw [hi] at h1
  exact ⟨offs, ms, js, os, ps, G, rw, hj.trans h1, h2⟩
theorem Plan.minI {at' : Array TypeId} {x y : Operand} {a b : Int} (hg : wantedE n e g = true) (hx : ev n e x = .int .i64 a) (hy : ev n e y = .int .i64 b) (h : Plan P n K l O (upd e d (.int .i64 (min a b))) w) :
    Plan P n K (⟨i, true, ⟨some d, .call ⟨.builtin .min, #[x, y], at'⟩, ty, pos, aft, gd⟩, g⟩ :: l) O e w :=
  Plan.val hg (fun w => run_blt2s (P := P) fun cs => by
    rw [hx, hy]
    simp only [builtin, Sem.run_bind, Builtin.min_, List.foldlM_cons, List.foldlM_nil, Builtin.min2, Sem.run_pure, Result.andThen_ok]
    have e1 : (if (b < a) then b else a) = min a b := by split <;> omega
    simp [e1]) h
theorem Plan.idxVS (hst : St B w0 L w) {t : TypeId} {x y : Operand} {k : IntKind} {ix len cc j : Nat} {a : Option Addr} {X : List Byte} (hX : Bx L ix a len cc X) (ha : slB P t 1 = true) (hg : wantedE n e g = true) (hx : ev n e x = .slice a len cc) (hy : ev n e y = .int k (j : Int)) (hj : j < len)
    (h : Plan P n K l O (upd e d (.pointer (a.map fun z => ⟨z.block, z.off + j, none⟩))) w) : Plan P n K (⟨i, true, ⟨some d, .indexAddr t x y, ty, pos, aft, gd⟩, g⟩ :: l) O e w := Plan.idxV hX ha hg hx hy hj h
theorem Plan.sl2arrVS (hst : St B w0 L w) {t : TypeId} {x : Operand} {ix m len cap : Nat} {a : Option Addr} {X : List Byte} {el : TypeId} (hX : Bx L ix a len cap X) (hu : P.underlying t = some (.array m el)) (hg : wantedE n e g = true) (hx : ev n e x = .slice a len cap) (hm : 0 < m ∧ m ≤ len)
    (h : Plan P n K l O (upd e d (.pointer a)) w) : Plan P n K (⟨i, true, ⟨some d, .sliceToArrayPointer t x, ty, pos, aft, gd⟩, g⟩ :: l) O e w := Plan.sl2arrV hX hu hg hx hm h
theorem Plan.maxI {at' : Array TypeId} {x y : Operand} {a b : Int} (hg : wantedE n e g = true) (hx : ev n e x = .int .i64 a) (hy : ev n e y = .int .i64 b) (h : Plan P n K l O (upd e d (.int .i64 (max a b))) w) :
    Plan P n K (⟨i, true, ⟨some d, .call ⟨.builtin .max, #[x, y], at'⟩, ty, pos, aft, gd⟩, g⟩ :: l) O e w :=
  Plan.val hg (fun w => run_blt2s (P := P) fun cs => by
    rw [hx, hy]
    simp only [builtin, Sem.run_bind, Builtin.max_, List.foldlM_cons, List.foldlM_nil, Builtin.max2, Sem.run_pure, Result.andThen_ok]
    have e1 : (if (b > a) then b else a) = max a b := by split <;> omega
    simp [e1]) h
theorem Plan.maxN {at' : Array TypeId} {x y : Operand} {a b : Nat} (hg : wantedE n e g = true) (hx : ev n e x = VN a) (hy : ev n e y = VN b) (h : Plan P n K l O (upd e d (VN (max a b))) w) :
    Plan P n K (⟨i, true, ⟨some d, .call ⟨.builtin .max, #[x, y], at'⟩, ty, pos, aft, gd⟩, g⟩ :: l) O e w :=
  Plan.maxI hg hx hy (by
    have : max (a : Int) (b : Int) = ((max a b : Nat) : Int) := by omega
    rw [this]; exact h)
/-- the lowest bits of an int -/
theorem Plan.maskI {t yt : TypeId} {x y : Operand} {a : Int} (k : Nat) (hk : k < 63) (hg : wantedE n e g = true) (hx : ev n e x = .int .i64 a) (hy : ev n e y = .int .i64 ((2 ^ k - 1 : Nat) : Int))
    (h : Plan P n K l O (upd e d (.int .i64 (a % ((2 ^ k : Nat) : Int)))) w) : Plan P n K (⟨i, true, ⟨some d, .binOp .and t x y yt, ty, pos, aft, gd⟩, g⟩ :: l) O e w :=
  Plan.val hg (fun w => run_bin hx hy (by
    have hp : (2 : Nat) ^ k ≤ 2 ^ 62 := Nat.pow_le_pow_right (by omega) (by omega)
    have hp0 : 0 < (2 : Nat) ^ k := Nat.pow_pos (by omega)
    simp only [binOp, ne_eq, not_true_eq_false, if_false, Op.intBits, BitVec.ofInt_natCast]
    have e1 : (BitVec.ofNat 64 (2 ^ k - 1)).toNat = 2 ^ k - 1 := by simp only [BitVec.toNat_ofNat]; omega
    have e2 : ((BitVec.ofInt 64 a &&& BitVec.ofNat 64 (2 ^ k - 1)).toNat : Int) = a % ((2 ^ k : Nat) : Int) := by
      rw [BitVec.toNat_and, e1, Nat.and_two_pow_sub_one_eq_mod, BitVec.toNat_ofInt]
      have h0 : 0 ≤ a % ((2 ^ 64 : Nat) : Int) := Int.emod_nonneg _ (by decide)
      rw [Int.natCast_emod, Int.toNat_of_nonneg h0]
      refine Int.emod_emod_of_dvd a ?_
      have : (2 ^ k : Nat) ∣ 2 ^ 64 := Nat.pow_dvd_pow 2 (by omega)
      exact Int.natCast_dvd_natCast.2 this
    show (Sem.pure (Value.int .i64 (IntKind.i64.wrap ((BitVec.ofInt 64 a &&& BitVec.ofNat 64 (2 ^ k - 1)).toNat : Int)))).run P w = _
    rw [e2, wrap_i64_in _ (by
      have h1 := Int.emod_nonneg a (show ((2 ^ k : Nat) : Int) ≠ 0 by omega)
      have h2 := Int.emod_lt_of_pos a (show (0 : Int) < ((2 ^ k : Nat) : Int) by omega)
      omega)]
    rfl)) h
end step
end Go.LW

/-
  ENGINE X, PART 4 (own work): arguments that came in: numbers, arrays of numbers.
-/
namespace Go.LW
set_option linter.unusedSimpArgs false
set_option linter.unusedVariables false
set_option linter.unusedSectionVars false
open Go Go.RowKit

theorem has_u {k : IntKind} {s : Nat} (hk : UK k s) {n : Int} (h : k.has n) : n = ((BitVec.ofInt s n).toNat : Int) := by
  have h1 : 0 ≤ n ∧ n < (2 ^ s : Nat) := by
    cases hk <;> simp [IntKind.has, IntKind.min, IntKind.max, IntKind.signed, IntKind.bits] at h <;> omega
  rw [BitVec.toNat_ofInt, Int.emod_eq_of_lt h1.1 h1.2, Int.toNat_of_nonneg h1.1]
theorem cell_u {P : Program} {w : World} {r : Reach} {base : Nat} {t : TypeId} {v : Value} {k : IntKind} (hu : P.underlying t = some (.int k)) (h : Cell.okWide P w r base t v) : ∃ n, v = .int k n ∧ k.has n := by
  unfold Cell.okWide at h
  rw [hu] at h
  cases v <;> simp [Cell.ok, hu] at h
  obtain ⟨rfl, h⟩ := h
  exact ⟨_, rfl, h⟩
theorem arg_int {P : Program} {w : World} {r : Reach} {base : Nat} {t : TypeId} {v : Value} {k : IntKind} (hu : P.underlying t = some (.int k)) (h : Value.okWide P w r base t v) : ∃ n, v = .int k n ∧ k.has n := by
  unfold Value.okWide at h
  rw [hu] at h
  exact cell_u hu h
theorem arg_u {P : Program} {w : World} {r : Reach} {base : Nat} {t : TypeId} {v : Value} {k : IntKind} {s : Nat} (hk : UK k s) (hu : P.underlying t = some (.int k)) (h : Value.okWide P w r base t v) : ∃ X : BitVec s, v = VU k X := by
  obtain ⟨n, rfl, hn⟩ := arg_int hu h
  exact ⟨BitVec.ofInt s n, congrArg (Value.int k) (has_u hk hn)⟩
/-- an array of numbers -/
theorem arg_arr {P : Program} {w : World} {r : Reach} {base : Nat} {t u e n : Nat} {v : Value} {k : IntKind} {s m : Nat} (hk : UK k s) (hu : P.underlying t = some (.array n e)) (hts : P.cellTypes P.depth t = some (List.replicate m u)) (hc : P.cellsOf t = m) (hku : P.underlying u = some (.int k))
    (h : Value.okWide P w r base t v) : ∃ F : Nat → BitVec s, v = AG [(m, fun q => VU k (F q))] := by
  unfold Value.okWide at h
  rw [hu] at h
  obtain ⟨cs, rfl, hsz, ts, hts', _, hcell⟩ := h
  rw [hts] at hts'
  obtain rfl := Option.some.inj hts'
  rw [hc] at hsz
  have hget : ∀ i, i < m → ∃ x : BitVec s, cs[i]? = some (VU k x) := fun i hi => by
    have h1 : cs[i]? = some (cs[i]'(by omega)) := Array.getElem?_eq_getElem (by omega)
    obtain ⟨u', hu', hok⟩ := hcell i _ h1
    rw [List.length_replicate, Nat.mod_eq_of_lt hi, List.getElem?_replicate, if_pos hi] at hu'
    obtain rfl := Option.some.inj hu'
    obtain ⟨n', hn', hh⟩ := cell_u hku hok
    exact ⟨BitVec.ofInt s n', by rw [h1, hn']; exact congrArg (fun z => some (Value.int k z)) (has_u hk hh)⟩
  let F : Nat → BitVec s := fun q => if hq : q < m then (hget q hq).choose else 0#s
  refine ⟨F, ?_⟩
  unfold AG
  rw [catL_one]
  congr 1
  apply Array.ext_getElem?
  intro q
  by_cases hq : q < m
  · rw [(hget q hq).choose_spec]
    simp [hq, F]
  · rw [Array.getElem?_eq_none (by omega)]
    simp [hq]
/-- a slice of bytes that came in -/
theorem IsRow.bx {B : Nat} {w0 : Base} {w : World} {L : List Rg} {a : Option Addr} {len cap : Nat} {zs : List Int} (hz : IsRow .u8 w a len cap zs) (h : St B w0 L w) (hr : roL L) : ∃ (r : Rg) (X : List Byte) (ix : Nat), St B w0 (r :: L) w ∧ roL (r :: L) ∧ Bx (r :: L) ix a len cap X := by
  obtain ⟨r, h1, h2, h3⟩ := hz.bytes h hr
  obtain ⟨X, hl, h4⟩ := h3.list
  obtain ⟨ix, h5⟩ := h4.bx hl
  exact ⟨r, X, ix, h1, h2, h5⟩
end Go.LW

/-
  ENGINE X, PART 5 (own work): zeros appended; slices of three; numbers added with a carry.
-/
namespace Go.LW
set_option linter.unusedSimpArgs false
set_option linter.unusedVariables false
set_option linter.unusedSectionVars false
open Go Go.RowKit

section step
variable {P : Program} {n : Nat} {K : Pend → Env → World → Prop} {l : List It} {O O' : Pend} {e : Env} {w : World} {i ty : Nat} {d : Tmp} {pos : String} {aft : Array Edge} {gd g : Option (Nat × Bool)}
variable {B : Nat} {w0 : Base} {L L' : List Rg}

/-! append(x, make([]byte, n)...) -/
def zerosS (n : Nat) : ByteArray := ⟨(Array.replicate n 0)⟩
theorem zerosS_cells (n : Nat) : byteCells (zerosS n) = (List.range (n * 1)).map fun _ => VU .u8 0#8 := by
  unfold byteCells zerosS
  simp
  apply List.ext_getElem?
  intro q
  simp [List.getElem?_replicate]
  by_cases hq : q < n <;> simp [hq]
theorem run_append_zeros {t tI tS ty : TypeId} (he : elB P t 1 1 (VU .u8 0#8)) (hI : P.underlying tI = some (.int .i64)) (hS : P.underlying tS = some .string) {a : Option Addr} {len cap m : Nat} (hlc : len ≤ cap) (hb : len + m ≤ 140737488355328) (w : World) :
    (Builtin.append_ #[t, tI] ty #[.slice a len cap, VN m]).run P w = (Builtin.append_ #[t, tS] ty #[.slice a len cap, .string (zerosS m)]).run P w := by
  obtain ⟨el, inf, hu, hi, hs1, hby, hz⟩ := he
  have hw : IntKind.i64.wrap (m : Int) = m := wrap_i64_in _ (by omega)
  have hsz : (zerosS m).size = m := by simp [zerosS, ByteArray.size]
  have hcells : (Builtin.firstCells 1 m (.string (zerosS m))) = (if m * 1 = 0 then (pure #[] : Sem (Array Value)) else pure (Builtin.zeroCells (VU .u8 0#8 : Value).cells m)) := by
    have h1 := zerosS_cells m
    unfold byteCells at h1
    have h2 : ((zerosS m).extract 0 m) = zerosS m := by
      apply ByteArray.ext
      simp [zerosS]
    show (pure (((zerosS m).extract 0 m).data.map fun b => Value.int .u8 (b.toNat : Int)) : Sem (Array Value)) = _
    rw [h2]
    have h3 : ((zerosS m).data.map fun b => Value.int .u8 (b.toNat : Int)) = (Builtin.zeroCells (VU .u8 0#8 : Value).cells m) := by
      apply Array.ext'
      rw [Array.toList_map, h1]
      show _ = (Builtin.zeroCells #[VU .u8 0#8] m).toList
      unfold Builtin.zeroCells
      simp only [Array.toList_map, Array.toList_range]
      refine List.map_congr_left fun q _ => ?_
      simp [Nat.mod_one]
    split
    · rename_i h0
      obtain rfl : m = 0 := by omega
      simp [zerosS]
    · rw [h3]
  have hA : ∀ w : World, (asInt (VN m)).run P w = .ok (m : Int) w := fun _ => rfl
  have hzv : ∀ w : World, (zeroValue el).run P w = .ok (VU .u8 0#8) w := fun w => run_zeroValue (by rw [hi]; exact hz) w
  have n1 : ¬ ((m : Int) < 0) := by omega
  have n2 : ¬ (281474976710656 < (m : Int)) := by omega
  have n3 : ¬ (9223372036854775807 < (len : Int) + (m : Int)) := by omega
  have hw0 : IntKind.i64.wrap 0 = 0 := by decide
  by_cases hm0 : m = 0
  · subst hm0
    by_cases hroom : len ≤ cap
    · simp [Builtin.append_, run_underlying hu, run_underlying hI, run_underlying hS, sizeOf, typeInfo, hi, hs1, hby, hA, Builtin.lenOf, hsz, hw, hw0, hcells, hroom, hzv]
    · omega
  · by_cases hroom : len + m ≤ cap
    · simp [Builtin.append_, run_underlying hu, run_underlying hI, run_underlying hS, sizeOf, typeInfo, hi, hs1, hby, hA, Builtin.lenOf, hsz, hw, hcells, hroom, hzv, n1, n2, n3, hm0]
    · have hfit := growslice_fits (need := len + m) (old := cap) (bytes := inf.bytes) (by omega) (by rw [hby]; omega)
      have n4 : ¬ (281474976710656 < Builtin.nextslicecap (len + m) cap) := by rw [hby] at hfit; omega
      simp [Builtin.append_, run_underlying hu, run_underlying hI, run_underlying hS, sizeOf, typeInfo, hi, hs1, hby, hA, Builtin.lenOf, hsz, hw, hcells, hroom, hzv, n1, n2, n3, n4, hm0]
theorem Plan.appendZ (hst : St B w0 L w) {t tI tS : TypeId} {x y : Operand} {len cap m : Nat} {a : Option Addr} {pb : Option Nat} {F : Nat → Byte} {X : List Byte} (k : Nat) (hO : Ow a pb len cap F X) (he : elD P t = some (1, 1, some (VU .u8 0#8))) (hI : P.underlying tI = some (.int .i64)) (hS : P.underlying tS = some .string) (hg : wantedE n e g = true)
    (hx : ev n e x = .slice a len cap) (hy : ev n e y = VN m) (hL : L[k]? = some ⟨pb, 0, cap, fun q => VU .u8 (F q), true⟩) (hb : len + m ≤ 140737488355328)
    (hw : ∀ r, EffO aft O (L.set k r) O')
    (h : ∀ a' pb' cap' (F' : Nat → Byte) w', Ow a' pb' (X ++ List.replicate m 0#8).length cap' F' (X ++ List.replicate m 0#8) → St B w0 (L.set k ⟨pb', 0, cap', fun q => VU .u8 (F' q), true⟩) w' → Plan P n K l O' (updO e (some d) (.slice a' (X ++ List.replicate m 0#8).length cap')) w') :
    Plan P n K (⟨i, false, ⟨some d, .call ⟨.builtin .append, #[x, y], #[t, tI]⟩, ty, pos, aft, gd⟩, g⟩ :: l) O e w := by
  have hsrc : Src P 1 tS (.string (zerosS m)) m ((List.range (m * 1)).map fun q => VU .u8 ((fun _ => 0#8 : Nat → Byte) q)) w := by
    have h1 := Src.ofString (P := P) w hS (zerosS m)
    rw [zerosS_cells, show (zerosS m).size = m by simp [zerosS, ByteArray.size]] at h1
    exact h1
  obtain ⟨w', a', pb', cap', ip, hr, ho', hcap, hst'⟩ := run_appendS (P := P) (ty := ty) (s := 1) (zf := fun _ => VU .u8 0#8) hst (elB_of he) rfl (fun q hq => by cases Nat.lt_one_iff.1 hq; rfl) (by rw [Nat.mul_one]; exact hL) hO.ho hsrc hO.hc (by omega) (by omega)
  have hfun : (fun q => if ip = true ∨ q < (len + m) * 1 then spl (fun q => VU .u8 (F q)) (len * 1) (m * 1) (fun q => VU .u8 ((fun _ => 0#8 : Nat → Byte) q)) q else VU .u8 0#8) = fun q => VU .u8 (if ip = true ∨ q < len + m then spl F len m (fun _ => 0#8) q else 0#8) := by
    funext q
    simp only [Nat.mul_one, ← spl_map]
    split <;> rfl
  rw [hfun, Nat.mul_one] at hst'
  have hl : (X ++ List.replicate m 0#8).length = len + m := by rw [List.length_append, List.length_replicate, hO.hl]
  refine Plan.effS hg (w' := w') (v := .slice a' (len + m) cap') (run_blt2 fun c => ?_) hst' (hw _) fun w' hw' => ?_
  · rw [hx, hy]
    simp only [builtin, Sem.run_bind, run_append_zeros (elB_of he) hI hS hO.hc hb, hr]
    rfl
  · rw [← hl]
    refine h a' pb' cap' _ w' ⟨ho', by rw [hl]; exact hcap, rfl, fun q hq => ?_⟩ hw'
    rw [hl] at hq
    rw [if_pos (.inr hq), lit_app, hO.hl]
    by_cases h2 : q < len
    · rw [if_pos h2, spl_out _ _ _ _ _ (by omega), hO.hF q h2]
    · rw [if_neg h2, spl_in _ _ _ _ _ (by omega)]
      unfold lit
      rw [List.getD_eq_getElem?_getD, List.getElem?_replicate]
      split <;> rfl

/-! a slice of three, from the head on: the rest is given up -/
theorem St.shrink (h : St B w0 L w) {k m' m : Nat} {p : Option Nat} {off : Nat} {f : Nat → Value} {rw' : Bool} (hL : L[k]? = some ⟨p, off, m, f, rw'⟩) (hm : m' ≤ m) : St B w0 (L.set k ⟨p, off, m', f, rw'⟩) w := by
  obtain ⟨hk, hLk⟩ := List.getElem?_eq_some_iff.1 hL
  refine ⟨h.below, h.base, fun r hr => ?_, fun r hr => ?_, ?_⟩
  · rcases List.mem_or_eq_of_mem_set hr with h1 | rfl
    · exact h.at_ r h1
    · intro j hj
      have := h.mem hL j (show j < m by simp only at hj; omega)
      exact this
  · rcases List.mem_or_eq_of_mem_set hr with h1 | rfl
    · exact h.free r h1
    · intro hrw j hj
      have := h.free _ (List.mem_of_getElem? hL) hrw j (show j < m by simp only at hj; omega)
      exact this
  · rw [List.pairwise_iff_getElem]
    intro i j hi hj hij
    have hp := List.pairwise_iff_getElem.1 h.apart i j (by simpa using hi) (by simpa using hj) hij
    rw [List.getElem_set, List.getElem_set]
    have key : ∀ s : Rg, (Rg.mk p off m f rw').apart s → (Rg.mk p off m' f rw').apart s := fun s hs hr => by
      rcases hs hr with h1 | h1 | h1 | h1 | h1
      · exact .inl h1
      · exact .inr (.inl (by simp only at h1 ⊢; omega))
      · exact .inr (.inr (.inl h1))
      · exact .inr (.inr (.inr (.inl (by simp only at h1 ⊢; omega))))
      · exact .inr (.inr (.inr (.inr h1)))
    split
    · split
      · omega
      · rename_i h1 h2
        subst h1
        rw [hLk] at hp
        exact key _ hp
    · split
      · rename_i h1 h2
        subst h2
        rw [hLk] at hp
        exact (key _ hp.symm).symm
      · exact hp
theorem Ow.cut {a : Option Addr} {pb : Option Nat} {len cap : Nat} {F : Nat → Byte} {X : List Byte} (h : Ow a pb len cap F X) {m : Nat} (hm : m ≤ len) (ha : ¬ (m = 0 ∧ False)) : Ow a pb (seg X 0 m).length m F (seg X 0 m) := by
  have hl : (seg X 0 m).length = m := by rw [seg_length (by rw [h.hl]; exact hm), Nat.sub_zero]
  refine ⟨?_, by omega, rfl, fun q hq => ?_⟩
  · rcases h.ho with ⟨h1, h2, h3⟩ | h1
    · exact .inl ⟨by have := h.hc; omega, h2, h3⟩
    · exact .inr h1
  · rw [hl] at hq
    rw [lit_seg (by rw [h.hl]; exact hm) (by omega), Nat.zero_add]
    exact h.hF q (by omega)
theorem Plan.sl3O (hst : St B w0 L w) {t : TypeId} {x y z : Operand} {a : Option Addr} {pb : Option Nat} {len cap m : Nat} {F : Nat → Byte} {X : List Byte} (k : Nat) (hO : Ow a pb len cap F X) (ha : slB P t 1 = true) (hg : wantedE n e g = true) (hx : ev n e x = .slice a len cap) (hy : ∃ kd, ev n e y = .int kd (m : Int)) (hz : ∃ kd, ev n e z = .int kd (m : Int)) (hm : m ≤ len)
    (hL : L[k]? = some ⟨pb, 0, cap, fun q => VU .u8 (F q), true⟩)
    (h : Ow a pb (seg X 0 m).length m F (seg X 0 m) → St B w0 (L.set k ⟨pb, 0, m, fun q => VU .u8 (F q), true⟩) w → Plan P n K l O (upd e d (.slice a (seg X 0 m).length m)) w) : Plan P n K (⟨i, true, ⟨some d, .slice t x none (some y) (some z), ty, pos, aft, gd⟩, g⟩ :: l) O e w := by
  have hc := hO.hc
  have hl : (seg X 0 m).length = m := by rw [seg_length (by rw [hO.hl]; exact hm), Nat.sub_zero]
  have hcut := hO.cut hm (fun h => h.2)
  refine Plan.val hg (fun w => run_v ?_) (h hcut (hst.shrink hL (by omega)))
  obtain ⟨el, hu, hs⟩ := slB_spec ha
  obtain ⟨ky, hy⟩ := hy
  obtain ⟨kz, hz⟩ := hz
  rw [hx]
  have hbd : (Instr.sliceBounds true len cap none (some (ev n e y)) (some (ev n e z))).run P w = .ok (0, m, m) w := by
    unfold Instr.sliceBounds
    simp [hy, hz, run_sliceBound (show m ≤ cap by omega), run_sliceBound (Nat.le_refl m)]
  have hadd : a.map (·.add (0 * 1)) = a := by
    cases a with
    | none => rfl
    | some a => simp [Addr.add]
  simp only [Option.map_none, Option.map_some, Instr.sliceAt, Instr.slice, Sem.run_bind, run_underlying hu w, Result.andThen, hbd, szT_spec hs, Sem.run_pure, hl, Nat.sub_zero]
  rw [hadd]
  split <;> rfl

/-! numbers added with a carry -/
theorem Plan.add64 {f : FuncId} {fn : Func} {x y c : Operand} {at' : Array TypeId} {X Y C : BitVec 64} (hf : P.funcs[f]? = some fn) (hname : (fn.name == "runtime.NumGoroutine") = false) (hb : fn.body.isNone = true) (hn : Extern.findNext fn = none) (he : Extern.find fn = some add64Entry)
    (hg : wantedE n e g = true) (hx : ev n e x = VU .u64 X) (hy : ev n e y = VU .u64 Y) (hc : ev n e c = VU .u64 C) (hC : C.toNat ≤ 1)
    (h : Plan P n K l O (upd e d (.tuple #[VU .u64 (X + Y + C), VU .u64 (BitVec.ofNat 64 ((X.toNat + Y.toNat + C.toNat) / 2 ^ 64))])) w) :
    Plan P n K (⟨i, false, ⟨some d, .call ⟨.value (.func f), #[x, y, c], at'⟩, ty, pos, aft, gd⟩, g⟩ :: l) O e w := by
  have e1 : ((X.toNat : Int) + Y.toNat + C.toNat) % 18446744073709551616 = ((X + Y + C).toNat : Int) := by
    rw [BitVec.toNat_add, BitVec.toNat_add]; omega
  have e2 : ((X.toNat : Int) + Y.toNat + C.toNat) / 18446744073709551616 = ((BitVec.ofNat 64 ((X.toNat + Y.toNat + C.toNat) / 2 ^ 64)).toNat : Int) := by
    have := X.isLt; have := Y.isLt
    rw [BitVec.toNat_ofNat]; omega
  refine Plan.eff hg ?_
  have hρ : ev n e (.func f) = .func (.func f) #[] #[] := rfl
  have h1 := run_callFunc_extern (P := P) hf hname hb hn he #[VU .u64 X, VU .u64 Y, VU .u64 C] w
  rw [run_add64 _ _ _ (by omega) (by omega) (by omega) (by omega) w, e1, e2] at h1
  simp only [execOp, resolve, hρ, Deferred.ofValue, Sem.run_bind, Sem.run_pure, Result.andThen, invoke]
  have h2 : (#[] ++ Array.map (ev n e) #[x, y, c] ++ #[] : Array Value) = #[VU .u64 X, VU .u64 Y, VU .u64 C] := by simp [hx, hy, hc]
  rw [h2, h1]
  exact .inl ⟨fun p _ hp => hp, h⟩
theorem Plan.quoIw {t yt : TypeId} {x y : Operand} {a b : Int} (hg : wantedE n e g = true) (hx : ev n e x = .int .i64 a) (hy : ev n e y = .int .i64 b) (hb : b ≠ 0) (hr : -9223372036854775808 ≤ a.tdiv b ∧ a.tdiv b ≤ 9223372036854775807)
    (h : Plan P n K l O (upd e d (.int .i64 (a.tdiv b))) w) : Plan P n K (⟨i, true, ⟨some d, .binOp .quo t x y yt, ty, pos, aft, gd⟩, g⟩ :: l) O e w :=
  Plan.quoI hg hx hy hb (by rw [wrap_i64_in _ hr]; exact h)
end step
section step2
variable {P : Program} {n : Nat} {K : Pend → Env → World → Prop} {l : List It} {O O' : Pend} {e : Env} {w : World} {i i2 ty ty2 : Nat} {d d2 : Tmp} {pos pos2 : String} {aft aft2 : Array Edge} {gd gd2 g g2 : Option (Nat × Bool)}
variable {B : Nat} {w0 : Base} {L L' : List Rg}
theorem Plan.constBytesO (hO : PIn O L) (hst : St B w0 L w) {t el : TypeId} {len : Nat} {parts : Array (Nat × Operand)} {f : Nat → Value} {vs : List (Nat × Value)} {z : Value} (hu : P.underlying t = some (.slice el)) (he : P.underlying el = some (.int .u8)) (hs : szT P el 1 = true) (hz : (P.info? el).bind (·.zero) = some z)
    (hl : 0 < len * 1) (hl2 : len * 1 ≤ 16777216) (hg : wantedE n e g = true) (hg2 : ∀ v, wantedE n (upd e d v) g2 = true) (hx2 : ∀ v, ev n (upd e d v) (.tmp d) = v)
    (hv : parts.toList.map (fun p => (p.1, ev n e p.2)) = vs) (hf : fillL (fun i => some (i * 1, 1)) ((List.range (len * 1)).map fun i => z.cells[i % z.cells.size]!) vs = some (catL [(len, f)]))
    (h : ∀ b w', B ≤ b → St B w0 (⟨some b, 0, len, f, false⟩ :: L) w' → Plan P n K l O (upd (upd e d (.slice (some ⟨b, 0, none⟩) len len)) d2 (.slice (some ⟨b, 0, none⟩) len len)) w') :
    Plan P n K (⟨i, false, ⟨some d, .buildSlice t len parts, ty, pos, aft, gd⟩, g⟩ :: ⟨i2, false, ⟨some d2, .convert t t (.tmp d), ty2, pos2, aft2, gd2⟩, g2⟩ :: l) O e w := by
  have hr : (execOp (ev n e) ⟨some d, .buildSlice t len parts, ty, pos, aft, gd⟩).run P w = .ok (.value (.slice (some ⟨w.heap.size, 0, none⟩) len len)) (w.alloc (.cells (catL [(len, f)]).toArray el)) := run_v (by
    have hmap : (parts.map fun (i, x) => (i, ev n e x)).toList = vs := by rw [← hv]; simp
    have hf' := fillL_spec _ _ _ hf
    have hrange : ((Array.range (len * 1)).map (z.cells[· % z.cells.size]!)) = ((List.range (len * 1)).map fun i => z.cells[i % z.cells.size]!).toArray := by
      apply Array.ext'; simp
    simp only [Instr.buildSlice, Sem.run_bind, run_underlying hu w, Result.andThen, szT_spec hs, if_neg (show ¬ len * 1 > 2 ^ 24 by omega), Sem.run_pure, if_neg (show ¬ len * 1 = 0 by omega), run_zeroValue hz, hmap, hrange, hf', newRow, newObj]
    rfl)
  refine Plan.eff hg ?_
  rw [hr]
  refine .inl ⟨PIn.keep (hO.app [⟨some w.heap.size, 0, len, f, false⟩] rfl) (hst.allocRo len f el _), ?_⟩
  refine Plan.eff (hg2 _) ?_
  have hr2 : (execOp (ev n (upd e d (.slice (some ⟨w.heap.size, 0, none⟩) len len))) ⟨some d2, .convert t t (.tmp d), ty2, pos2, aft2, gd2⟩).run P (w.alloc (.cells (catL [(len, f)]).toArray el)) = .ok (.value (.slice (some ⟨w.heap.size, 0, none⟩) len len)) (w.alloc (.cells (catL [(len, f)]).toArray el ((catL [(len, f)]).toArray.size, (catL [(len, f)]).toArray.size + 1))) := run_v (by
    rw [hx2]
    exact Lib.run_convert_bytes_const w t el _ len len hu he)
  rw [show updO e (some d) (.slice (some ⟨w.heap.size, 0, none⟩) len len) = upd e d (.slice (some ⟨w.heap.size, 0, none⟩) len len) from rfl, hr2]
  exact .inl ⟨PIn.keep (hO.app [⟨some w.heap.size, 0, len, f, false⟩] rfl) (hst.allocRo len f el _), h _ _ hst.base (hst.allocRo len f el _)⟩

end step2
end Go.LW

/-
  ENGINE X, PART 6 (own work): constant bytes whose block is frozen behind another block's making.
-/
namespace Go.LW
set_option linter.unusedSimpArgs false
set_option linter.unusedVariables false
set_option linter.unusedSectionVars false
open Go Go.RowKit

theorem modify_push2 (a : Array Obj) (x y : Obj) (f : Obj → Obj) : ((a.push x).push y).modify a.size f = (a.push (f x)).push y := by
  apply Array.ext
  · simp
  · intro i h1 h2
    simp only [Array.getElem_modify, Array.getElem_push, Array.size_push]
    by_cases h : a.size = i
    · subst h; simp
    · rw [if_neg h]
      by_cases hi : i < a.size + 1
      · have hi2 : i < a.size := by omega
        simp [hi, hi2]
      · simp [hi]
theorem run_convert_old {P : Program} (w : World) (t e : TypeId) (C : Array Value) (Z : Obj) (n c : Nat) (ht : P.underlying t = some (.slice e)) (he : P.underlying e = some (.int .u8)) :
    (convert t t (.slice (some ⟨w.heap.size, 0, none⟩) n c)).run P ((w.alloc (.cells C e)).alloc Z) = .ok (.slice (some ⟨w.heap.size, 0, none⟩) n c) ((w.alloc (.cells C e (C.size, C.size + 1))).alloc Z) := by
  have hsh : ((w.alloc (.cells C e)).alloc Z).shape? w.heap.size = some (e, C.size) := by
    have : ((w.alloc (.cells C e)).alloc Z).heap[w.heap.size]? = some (.cells C e) := by
      show ((w.heap.push (.cells C e)).push Z)[w.heap.size]? = _
      rw [Array.getElem?_push_lt (by simp), Array.getElem_push_eq]
    unfold World.shape?
    rw [this]
  have hfr : ∀ (k : Nat), ((w.alloc (.cells C e)).alloc Z).freeze ⟨w.heap.size, k, none⟩ 1 = (w.alloc (.cells C e (k, k + 1))).alloc Z := fun k => by
    unfold World.freeze
    rw [if_neg (by decide)]
    show ({ (w.alloc (.cells C e)).alloc Z with heap := ((w.heap.push (.cells C e)).push Z).modify w.heap.size _ } : World) = _
    rw [modify_push2]
    rfl
  simp [convert, run_underlying ht, run_underlying he, markStringish, hsh, hfr]

section step3
variable {P : Program} {n : Nat} {K : Pend → Env → World → Prop} {l : List It} {O O' : Pend} {e : Env} {w : World} {i i2 i3 ty ty2 ty3 : Nat} {d d2 d3 : Tmp} {pos pos2 pos3 : String} {aft aft2 aft3 : Array Edge} {gd gd2 gd3 g g2 g3 : Option (Nat × Bool)}
variable {B : Nat} {w0 : Base} {L L' : List Rg}
theorem Plan.constMake (hO : PIn O L) (hst : St B w0 L w) {t el t3 : TypeId} {x y : Operand} {len m c : Nat} {k k' : IntKind} {parts : Array (Nat × Operand)} {f : Nat → Value} {vs : List (Nat × Value)} {z : Value} (hu : P.underlying t = some (.slice el)) (he : P.underlying el = some (.int .u8)) (hs : szT P el 1 = true) (hz : (P.info? el).bind (·.zero) = some z)
    (hl : 0 < len * 1) (hl2 : len * 1 ≤ 16777216) (hg : wantedE n e g = true) (hg3 : ∀ v, wantedE n (upd e d v) g3 = true) (hg2 : ∀ v v3, wantedE n (upd (upd e d v) d3 v3) g2 = true) (hx2 : ∀ v v3, ev n (upd (upd e d v) d3 v3) (.tmp d) = v)
    (hv : parts.toList.map (fun p => (p.1, ev n e p.2)) = vs) (hf : fillL (fun i => some (i * 1, 1)) ((List.range (len * 1)).map fun i => z.cells[i % z.cells.size]!) vs = some (catL [(len, f)]))
    (he3 : elD P t3 = some (1, 1, some (VU .u8 0#8))) (hx : ∀ v, ev n (upd e d v) x = .int k (m : Int)) (hy : ∀ v, ev n (upd e d v) y = .int k' (c : Int)) (hlc : m ≤ c) (hc : c ≤ 281474976710656)
    (h : ∀ b b3 w', B ≤ b → B ≤ b3 → Ow (some ⟨b3, 0, none⟩) (some b3) (List.replicate m 0#8).length c (fun _ => 0#8) (List.replicate m 0#8) → St B w0 (⟨some b3, 0, c, fun q => VU .u8 ((fun _ => 0#8 : Nat → Byte) q), true⟩ :: ⟨some b, 0, len, f, false⟩ :: L) w' → Plan P n K l O (upd (upd (upd e d (.slice (some ⟨b, 0, none⟩) len len)) d3 (.slice (some ⟨b3, 0, none⟩) (List.replicate m 0#8).length c)) d2 (.slice (some ⟨b, 0, none⟩) len len)) w') :
    Plan P n K (⟨i, false, ⟨some d, .buildSlice t len parts, ty, pos, aft, gd⟩, g⟩ :: ⟨i3, false, ⟨some d3, .makeSlice t3 x y, ty3, pos3, aft3, gd3⟩, g3⟩ :: ⟨i2, false, ⟨some d2, .convert t t (.tmp d), ty2, pos2, aft2, gd2⟩, g2⟩ :: l) O e w := by
  have hr : (execOp (ev n e) ⟨some d, .buildSlice t len parts, ty, pos, aft, gd⟩).run P w = .ok (.value (.slice (some ⟨w.heap.size, 0, none⟩) len len)) (w.alloc (.cells (catL [(len, f)]).toArray el)) := run_v (by
    have hmap : (parts.map fun (i, x) => (i, ev n e x)).toList = vs := by rw [← hv]; simp
    have hf' := fillL_spec _ _ _ hf
    have hrange : ((Array.range (len * 1)).map (z.cells[· % z.cells.size]!)) = ((List.range (len * 1)).map fun i => z.cells[i % z.cells.size]!).toArray := by
      apply Array.ext'; simp
    simp only [Instr.buildSlice, Sem.run_bind, run_underlying hu w, Result.andThen, szT_spec hs, if_neg (show ¬ len * 1 > 2 ^ 24 by omega), Sem.run_pure, if_neg (show ¬ len * 1 = 0 by omega), run_zeroValue hz, hmap, hrange, hf', newRow, newObj]
    rfl)
  refine Plan.eff hg ?_
  rw [hr]
  have hst1 := hst.allocRo len f el (0, 0)
  refine .inl ⟨PIn.keep (hO.app [⟨some w.heap.size, 0, len, f, false⟩] rfl) hst1, ?_⟩
  rw [show updO e (some d) (.slice (some ⟨w.heap.size, 0, none⟩) len len) = upd e d (.slice (some ⟨w.heap.size, 0, none⟩) len len) from rfl]
  obtain ⟨el3, inf, hu3, hi3, hs3, hby, hz3⟩ := elB_of he3
  have hsz : (w.alloc (.cells (catL [(len, f)]).toArray el)).heap.size = w.heap.size + 1 := by rw [World.size_alloc]
  have hr3 := run_make (P := P) (w.alloc (.cells (catL [(len, f)]).toArray el)) t3 el3 inf _ hu3 hi3 hz3 k k' m c (Int.natCast_nonneg _) (by omega) (by rw [hby]; omega) (by omega)
  have hm : madeCells (VU .u8 0#8 : Value).cells ((c : Int).toNat * inf.size) = (catL [(c, fun _ => VU .u8 0#8)]).toArray := by
    rw [hs3, Int.toNat_natCast, Nat.mul_one, catL_one]
    show madeCells #[VU .u8 0#8] c = _
    unfold madeCells
    apply Array.ext'
    apply List.ext_getElem?
    intro q
    by_cases hq : q < c
    · simp [hq, Nat.mod_one]
    · simp [hq]
  rw [hm, hsz] at hr3
  have hr3' : (execOp (ev n (upd e d (.slice (some ⟨w.heap.size, 0, none⟩) len len))) ⟨some d3, .makeSlice t3 x y, ty3, pos3, aft3, gd3⟩).run P (w.alloc (.cells (catL [(len, f)]).toArray el)) = .ok (.value (.slice (some ⟨w.heap.size + 1, 0, none⟩) (List.replicate m 0#8).length c)) ((w.alloc (.cells (catL [(len, f)]).toArray el)).alloc (.cells (catL [(c, fun _ => VU .u8 0#8)]).toArray el3)) := run_v (by
    rw [hx, hy, hr3]; simp)
  refine Plan.eff (hg3 _) ?_
  rw [hr3']
  have hst2 := hst1.alloc [(c, fun _ => VU .u8 0#8)] el3
  rw [hsz] at hst2
  refine .inl ⟨PIn.keep ((hO.app [⟨some w.heap.size, 0, len, f, false⟩] rfl).app _ rfl) hst2, ?_⟩
  refine Plan.eff (hg2 _ _) ?_
  have hr2 : (execOp (ev n (updO (upd e d (.slice (some ⟨w.heap.size, 0, none⟩) len len)) (some d3) (.slice (some ⟨w.heap.size + 1, 0, none⟩) (List.replicate m 0#8).length c))) ⟨some d2, .convert t t (.tmp d), ty2, pos2, aft2, gd2⟩).run P ((w.alloc (.cells (catL [(len, f)]).toArray el)).alloc (.cells (catL [(c, fun _ => VU .u8 0#8)]).toArray el3)) = .ok (.value (.slice (some ⟨w.heap.size, 0, none⟩) len len)) ((w.alloc (.cells (catL [(len, f)]).toArray el ((catL [(len, f)]).toArray.size, (catL [(len, f)]).toArray.size + 1))).alloc (.cells (catL [(c, fun _ => VU .u8 0#8)]).toArray el3)) := run_v (by
    rw [show ev n (updO (upd e d (.slice (some ⟨w.heap.size, 0, none⟩) len len)) (some d3) (.slice (some ⟨w.heap.size + 1, 0, none⟩) (List.replicate m 0#8).length c)) (.tmp d) = _ from hx2 _ _]
    exact run_convert_old w t el _ _ len len hu he)
  rw [hr2]
  have hst3 := (hst.allocRo len f el ((catL [(len, f)]).toArray.size, (catL [(len, f)]).toArray.size + 1)).alloc [(c, fun _ => VU .u8 0#8)] el3
  rw [World.size_alloc] at hst3
  refine .inl ⟨PIn.keep ((hO.app [⟨some w.heap.size, 0, len, f, false⟩] rfl).app _ rfl) hst3, h _ _ _ hst.base (Nat.le_succ_of_le hst.base) ?_ hst3⟩
  refine ⟨.inr ⟨_, rfl, rfl⟩, by rw [List.length_replicate]; exact hlc, rfl, fun q hq => ?_⟩
  unfold lit
  rw [List.getD_eq_getElem?_getD, List.getElem?_replicate]
  split <;> rfl
/-! the same, op by op: the block is laid; marked later -/
theorem heap_freeze {w : World} {b : Nat} {C : Array Value} {el : TypeId} (hk : w.heap[b]? = some (.cells C el (0, 0))) (k b' : Nat) : (w.freeze ⟨b, k, none⟩ 1).heap[b']? = if b = b' then some (.cells C el (k, k + 1)) else w.heap[b']? := by
  unfold World.freeze
  rw [if_neg (by decide)]
  simp only [Array.getElem?_modify]
  by_cases h : b = b'
  · subst h; rw [if_pos rfl, if_pos rfl, hk]; rfl
  · rw [if_neg h, if_neg h]
theorem size_freeze (w : World) (b k : Nat) : (w.freeze ⟨b, k, none⟩ 1).heap.size = w.heap.size := by
  unfold World.freeze; rw [if_neg (by decide)]; simp
theorem cell_freeze {w : World} {b : Nat} {C : Array Value} {el : TypeId} (hk : w.heap[b]? = some (.cells C el (0, 0))) (k : Nat) (a : Addr) : (w.freeze ⟨b, k, none⟩ 1).cell? a = w.cell? a := by
  unfold World.cell?
  rw [heap_freeze hk]
  by_cases h : b = a.block
  · rw [if_pos h, ← h, hk]
  · rw [if_neg h]
theorem St.freezeC (h : St B w0 L w) {b : Nat} {C : Array Value} {el : TypeId} (hB : B ≤ b) (hk : w.heap[b]? = some (.cells C el (0, 0))) : St B w0 L (w.freeze ⟨b, C.size, none⟩ 1) := by
  refine ⟨⟨h.below.toBlw.trans ⟨⟨?_, ?_, ?_, ?_, fun k hk' => ?_⟩, ?_⟩, fun r hr => ⟨(h.below.maps r hr).1, ?_⟩, h.below.mdis⟩, by rw [size_freeze]; exact h.base, fun r hr j hj => ?_, fun r hr hw j hj => ?_, h.apart⟩
  · unfold World.freeze; rw [if_neg (by decide)]
  · unfold World.freeze; rw [if_neg (by decide)]
  · unfold World.freeze; rw [if_neg (by decide)]
  · rw [size_freeze]; exact Nat.le_refl _
  · rw [heap_freeze hk, if_neg (by omega)]
  · unfold World.freeze; rw [if_neg (by decide)]; exact Nat.le_refl _
  · obtain ⟨o, ho, h2, h3⟩ := (h.below.maps r hr).2
    refine ⟨o, ho, ?_, h3⟩
    rw [heap_freeze hk]
    by_cases hb : b = r.m
    · subst hb
      rw [hk] at h2
      obtain rfl := Option.some.inj h2
      cases ho
    · rw [if_neg hb]; exact h2
  · obtain ⟨b', hp, hc⟩ := h.at_ r hr j hj
    exact ⟨b', hp, by rw [cell_freeze hk]; exact hc⟩
  · obtain ⟨b', hp, hc⟩ := h.at_ r hr j hj
    obtain ⟨b2, hp2, hB2, hf⟩ := h.free r hr hw j hj
    refine ⟨b2, hp2, hB2, ?_⟩
    obtain rfl : b' = b2 := by rw [hp] at hp2; exact Option.some.inj hp2
    unfold World.frozen? at hf ⊢
    rw [heap_freeze hk]
    by_cases hb : b = b'
    · subst hb
      rw [if_pos rfl]
      unfold World.cell? at hc
      dsimp only at hc
      rw [hk] at hc
      have hlt : r.off + j < C.size := by
        have := (Array.getElem?_eq_some_iff.1 (by simpa using hc)).1
        exact this
      simp; omega
    · rw [if_neg hb]; exact hf
theorem run_convert_at {P : Program} {w : World} {b : Nat} {t e : TypeId} {C : Array Value} (hk : w.heap[b]? = some (.cells C e (0, 0))) (n c : Nat) (ht : P.underlying t = some (.slice e)) (he : P.underlying e = some (.int .u8)) :
    (convert t t (.slice (some ⟨b, 0, none⟩) n c)).run P w = .ok (.slice (some ⟨b, 0, none⟩) n c) (w.freeze ⟨b, C.size, none⟩ 1) := by
  have hsh : w.shape? b = some (e, C.size) := by unfold World.shape?; rw [hk]
  simp [convert, run_underlying ht, run_underlying he, markStringish, hsh]
theorem Plan.constBuild (hO : PIn O L) (hst : St B w0 L w) {t el : TypeId} {len : Nat} {parts : Array (Nat × Operand)} {f : Nat → Value} {vs : List (Nat × Value)} {z : Value} (hu : P.underlying t = some (.slice el)) (hs : szT P el 1 = true) (hz : (P.info? el).bind (·.zero) = some z)
    (hl : 0 < len * 1) (hl2 : len * 1 ≤ 16777216) (hg : wantedE n e g = true)
    (hv : parts.toList.map (fun p => (p.1, ev n e p.2)) = vs) (hf : fillL (fun i => some (i * 1, 1)) ((List.range (len * 1)).map fun i => z.cells[i % z.cells.size]!) vs = some (catL [(len, f)]))
    (h : ∀ b w', B ≤ b → w'.heap[b]? = some (.cells (catL [(len, f)]).toArray el (0, 0)) → St B w0 (⟨some b, 0, len, f, false⟩ :: L) w' → Plan P n K l O (upd e d (.slice (some ⟨b, 0, none⟩) len len)) w') :
    Plan P n K (⟨i, false, ⟨some d, .buildSlice t len parts, ty, pos, aft, gd⟩, g⟩ :: l) O e w := by
  have hr : (execOp (ev n e) ⟨some d, .buildSlice t len parts, ty, pos, aft, gd⟩).run P w = .ok (.value (.slice (some ⟨w.heap.size, 0, none⟩) len len)) (w.alloc (.cells (catL [(len, f)]).toArray el)) := run_v (by
    have hmap : (parts.map fun (i, x) => (i, ev n e x)).toList = vs := by rw [← hv]; simp
    have hf' := fillL_spec _ _ _ hf
    have hrange : ((Array.range (len * 1)).map (z.cells[· % z.cells.size]!)) = ((List.range (len * 1)).map fun i => z.cells[i % z.cells.size]!).toArray := by
      apply Array.ext'; simp
    simp only [Instr.buildSlice, Sem.run_bind, run_underlying hu w, Result.andThen, szT_spec hs, if_neg (show ¬ len * 1 > 2 ^ 24 by omega), Sem.run_pure, if_neg (show ¬ len * 1 = 0 by omega), run_zeroValue hz, hmap, hrange, hf', newRow, newObj]
    rfl)
  refine Plan.eff hg ?_
  rw [hr]
  have hst1 := hst.allocRo len f el (0, 0)
  exact .inl ⟨PIn.keep (hO.app [⟨some w.heap.size, 0, len, f, false⟩] rfl) hst1, h _ _ hst.base (heap_alloc_new _ _) hst1⟩
theorem Plan.constConv (hO : PIn O L) (hst : St B w0 L w) {b len : Nat} {t el : TypeId} {x : Operand} {C : Array Value} (hB : B ≤ b) (hk : w.heap[b]? = some (.cells C el (0, 0))) (hu : P.underlying t = some (.slice el)) (he : P.underlying el = some (.int .u8)) (hg : wantedE n e g = true) (hx : ev n e x = .slice (some ⟨b, 0, none⟩) len len)
    (h : ∀ w', St B w0 L w' → Plan P n K l O (upd e d (.slice (some ⟨b, 0, none⟩) len len)) w') :
    Plan P n K (⟨i, false, ⟨some d, .convert t t x, ty, pos, aft, gd⟩, g⟩ :: l) O e w := by
  refine Plan.eff hg ?_
  have hr : (execOp (ev n e) ⟨some d, .convert t t x, ty, pos, aft, gd⟩).run P w = .ok (.value (.slice (some ⟨b, 0, none⟩) len len)) (w.freeze ⟨b, C.size, none⟩ 1) := run_v (by
    rw [hx]; exact run_convert_at hk len len hu he)
  rw [hr]
  have hst1 := hst.freezeC hB hk
  exact .inl ⟨PIn.keep hO hst1, h _ hst1⟩
theorem Plan.makeK (hO : PIn O L) (hst : St B w0 L w) {t3 : TypeId} {x y : Operand} {m c : Nat} {k k' : IntKind} (he3 : elD P t3 = some (1, 1, some (VU .u8 0#8))) (hg : wantedE n e g = true) (hx : ev n e x = .int k (m : Int)) (hy : ev n e y = .int k' (c : Int)) (hlc : m ≤ c) (hc : c ≤ 281474976710656)
    (h : ∀ (b : Nat) (w' : World), B ≤ b → (∀ (q : Nat) (v : Obj), w.heap[q]? = some v → w'.heap[q]? = some v) → Ow (some ⟨b, 0, none⟩) (some b) (List.replicate m 0#8).length c (fun _ => 0#8) (List.replicate m 0#8) → St B w0 (⟨some b, 0, c, fun q => VU .u8 ((fun _ => 0#8 : Nat → Byte) q), true⟩ :: L) w' → Plan P n K l O (updO e (some d) (.slice (some ⟨b, 0, none⟩) (List.replicate m 0#8).length c)) w') :
    Plan P n K (⟨i, false, ⟨some d, .makeSlice t3 x y, ty, pos, aft, gd⟩, g⟩ :: l) O e w := by
  obtain ⟨el3, inf, hu3, hi3, hs3, hby, hz3⟩ := elB_of he3
  have hr3 := run_make (P := P) w t3 el3 inf _ hu3 hi3 hz3 k k' m c (Int.natCast_nonneg _) (by omega) (by rw [hby]; omega) (by omega)
  have hm : madeCells (VU .u8 0#8 : Value).cells ((c : Int).toNat * inf.size) = (catL [(c, fun _ => VU .u8 0#8)]).toArray := by
    rw [hs3, Int.toNat_natCast, Nat.mul_one, catL_one]
    show madeCells #[VU .u8 0#8] c = _
    unfold madeCells
    apply Array.ext'
    apply List.ext_getElem?
    intro q
    by_cases hq : q < c
    · simp [hq, Nat.mod_one]
    · simp [hq]
  rw [hm] at hr3
  have hr3' : (execOp (ev n e) ⟨some d, .makeSlice t3 x y, ty, pos, aft, gd⟩).run P w = .ok (.value (.slice (some ⟨w.heap.size, 0, none⟩) (List.replicate m 0#8).length c)) (w.alloc (.cells (catL [(c, fun _ => VU .u8 0#8)]).toArray el3)) := run_v (by
    rw [hx, hy, hr3]; simp)
  refine Plan.eff hg ?_
  rw [hr3']
  have hst2 := hst.alloc [(c, fun _ => VU .u8 0#8)] el3
  refine .inl ⟨PIn.keep (hO.app _ rfl) hst2, h _ _ hst.base (fun q v hv => ?_) ?_ hst2⟩
  · have hq : q < w.heap.size := by
      rcases Nat.lt_or_ge q w.heap.size with hq | hq
      · exact hq
      · rw [Array.getElem?_eq_none hq] at hv; cases hv
    rw [((Below.refl w.heap.size w).alloc (Nat.le_refl _) _).block q hq]; exact hv
  · refine ⟨.inr ⟨_, rfl, rfl⟩, by rw [List.length_replicate]; exact hlc, rfl, fun q hq => ?_⟩
    unfold lit
    rw [List.getD_eq_getElem?_getD, List.getElem?_replicate]
    split <;> rfl
end step3
end Go.LW

/-
  ENGINE X, PART 7 (own work): floating allocs. Where allocs that wait for nothing may come up anywhere beside a line of other operations, the line is walked once: for every memory beside, and every value of the allocs' slots.
-/
namespace Go.LW
set_option linter.unusedSimpArgs false
set_option linter.unusedVariables false
set_option linter.unusedSectionVars false
open Go Go.RowKit

/-- a floating alloc: its number, slot, type, parts -/
structure FA where
  i : Nat
  d : Nat
  T : TypeId
  ps : List (Nat × (Nat → Value))

theorem tmod_bd (a : Int) {c : Int} (hc : 0 < c) : -c < a.tmod c ∧ a.tmod c < c := by
  rcases Int.le_total 0 a with h | h
  · rw [Int.tmod_eq_emod_of_nonneg h]
    have h1 := Int.emod_nonneg a (show c ≠ 0 by omega)
    have h2 := Int.emod_lt_of_pos a hc
    omega
  · have e : a.tmod c = -((-a).tmod c) := by rw [Int.neg_tmod, Int.neg_neg]
    rw [e, Int.tmod_eq_emod_of_nonneg (by omega)]
    have h1 := Int.emod_nonneg (-a) (show c ≠ 0 by omega)
    have h2 := Int.emod_lt_of_pos (-a) hc
    omega
def ov (ds : List Nat) (z e : Env) : Env := fun i => cond (ds.any (Nat.beq i)) (z i) (e i)
theorem ov_in {ds : List Nat} {z e : Env} {i : Nat} (h : i ∈ ds) : ov ds z e i = z i := by
  unfold ov
  rw [show ds.any (Nat.beq i) = true from List.any_eq_true.2 ⟨i, h, Nat.beq_refl i⟩]
  rfl
theorem ov_out {ds : List Nat} {z e : Env} {i : Nat} (h : ¬ i ∈ ds) : ov ds z e i = e i := by
  unfold ov
  rw [show ds.any (Nat.beq i) = false from by
    rw [List.any_eq_false]
    intro x hx hb
    rw [Nat.eq_of_beq_eq_true hb] at h
    exact h hx]
  rfl
theorem ov_self {ds : List Nat} {z e : Env} (h : ∀ i, ¬ i ∈ ds → z i = e i) : ov ds z e = z := by
  funext i
  by_cases hi : i ∈ ds
  · exact ov_in hi
  · rw [ov_out hi, h i hi]

theorem St.perm {B : Nat} {w0 : Base} {w : World} {L L' : List Rg} (h : St B w0 L w) (hp : L.Perm L') : St B w0 L' w :=
  ⟨h.below, h.base, fun r hr => h.at_ r (hp.mem_iff.2 hr), fun r hr => h.free r (hp.mem_iff.2 hr), (hp.pairwise_iff (fun h => Rg.apart.symm h)).1 h.apart⟩

section
variable {P : Program} {n : Nat} {ops : Array Oper} {Q : Exit → Act → World → Prop} {B : Nat} {w0 : Base}

/-- behind all allocs -/
def KE (G : Env → World → Prop) (B : Nat) (w0 : Base) (F L : List Rg) : List FA → List Rg → Env → Prop
  | [], R, e => ∀ w, St B w0 (F ++ (R ++ L)) w → G e w
  | a :: A, R, e => ∀ b, KE G B w0 F L A (R ++ rngs b 0 a.ps) (upd e a.d (.pointer (some ⟨b, 0, none⟩)))
/-- the segments, each an effect and what is still behind it -/
def PX (P : Program) (n : Nat) (ops : Array Oper) (B : Nat) (L : List Rg) (ds : List Nat) (Z : Base → List Rg → Pend → Env → Prop) : List (List (Nat × Bool)) → Base → List Rg → Pend → Env → Prop
  | [], w0, F, O, e => Z w0 F O e
  | σ :: segs, w0, F, O, e => ∀ C z w, St B w0 (F ++ (C ++ L)) w →
      Plan P n (fun O' e' w' => ∃ w1 F', St B w1 (F' ++ (C ++ L)) w' ∧ PIn O' (F' ++ L) ∧ PX P n ops B L ds Z segs w1 F' O' e') (items ops σ) O (ov ds z e) w

theorem KE.all {G : Env → World → Prop} {F L : List Rg} (bs : Nat → Nat) : ∀ (A : List FA) (R : List Rg) (e : Env), KE G B w0 F L A R e →
    ∀ w, St B w0 (F ++ (R ++ A.flatMap (fun a => rngs (bs a.d) 0 a.ps) ++ L)) w → G (A.foldl (fun e a => upd e a.d (.pointer (some ⟨bs a.d, 0, none⟩))) e) w
  | [], R, e, h, w, hst => h w (by simpa using hst)
  | a :: A, R, e, h, w, hst => by
    refine KE.all bs A _ _ (h (bs a.d)) w ?_
    simpa [List.append_assoc] using hst
theorem foldl_env (bs : Nat → Nat) (i : Nat) : ∀ (A : List FA) (e : Env), (A.foldl (fun e a => upd e a.d (.pointer (some ⟨bs a.d, 0, none⟩))) e) i = if i ∈ A.map (·.d) then .pointer (some ⟨bs i, 0, none⟩) else e i
  | [], e => by simp
  | a :: A, e => by
    rw [List.foldl_cons, foldl_env bs i A, List.map_cons]
    by_cases h : i ∈ A.map (·.d)
    · rw [if_pos h, if_pos (List.mem_cons_of_mem _ h)]
    · rw [if_neg h, upd_at]
      by_cases h2 : i = a.d
      · subst h2; rw [if_pos rfl, if_pos List.mem_cons_self]
      · rw [if_neg h2, if_neg (by rw [List.mem_cons]; exact fun h3 => h3.elim h2 h)]

theorem PIn.mid {O : Pend} {F L : List Rg} (h : PIn O (F ++ L)) {w : World} {C : List Rg} (hst : St B w0 (F ++ (C ++ L)) w) : ∀ p ∈ O, p.2 w := by
  have hs : St B w0 (F ++ L) w := hst.sub (List.Sublist.append (List.Sublist.refl F) (List.sublist_append_right C L))
  intro p hp
  clear hst
  generalize F ++ L = M at h hs
  induction h with
  | nil => cases hp
  | cons i h t ih =>
    rcases List.mem_cons.1 hp with rfl | hp
    · exact hs.mem h
    · exact ih hp hs
  | tru t ih =>
    rcases List.mem_cons.1 hp with rfl | hp
    · trivial
    · exact ih hp hs
  | parts h t ih =>
    rcases List.mem_cons.1 hp with rfl | hp
    · exact h.cells hs
    · exact ih hp hs
theorem KE.mono {G G' : Env → World → Prop} {F L : List Rg} (h : ∀ e w, G e w → G' e w) : ∀ (A : List FA) (R : List Rg) (e : Env), KE G B w0 F L A R e → KE G' B w0 F L A R e
  | [], _, _, hk => fun w hst => h _ _ (hk w hst)
  | _ :: A, _, _, hk => fun b => KE.mono h A _ _ (hk b)
theorem PX.mono {L : List Rg} {ds : List Nat} {Z Z' : Base → List Rg → Pend → Env → Prop} (h : ∀ w0 F O e, Z w0 F O e → Z' w0 F O e) : ∀ (segs : List (List (Nat × Bool))) (w0 : Base) (F : List Rg) (O : Pend) (e : Env), PX P n ops B L ds Z segs w0 F O e → PX P n ops B L ds Z' segs w0 F O e
  | [], _, _, _, _, hk => h _ _ _ _ hk
  | _ :: segs, _, _, _, _, hk => fun C z w hst => Plan.mono (fun _ _ _ ⟨w1, F', h1, h2, h3⟩ => ⟨w1, F', h1, h2, PX.mono h segs _ _ _ _ h3⟩) _ _ _ _ (hk C z w hst)

/-- A plan turns no slot but its own. -/
theorem Plan.env {ds : List Nat} : ∀ (l : List It) {K : Pend → Env → World → Prop} (O : Pend) (e : Env) (w : World), (∀ it ∈ l, ∀ d, it.o.dst = some d → ¬ d ∈ ds) → Plan P n K l O e w →
    Plan P n (fun O' e' w' => K O' e' w' ∧ ∀ i ∈ ds, e' i = e i) l O e w
  | [], K, O, e, w, _, h => ⟨h, fun _ _ => rfl⟩
  | it :: l, K, O, e, w, hd, h => by
    have hl : ∀ it ∈ l, ∀ d, it.o.dst = some d → ¬ d ∈ ds := fun q hq => hd q (List.mem_cons_of_mem _ hq)
    have key : ∀ v, ∀ i ∈ ds, updO e it.o.dst v i = e i := fun v i hi => by
      unfold updO
      cases hx : it.o.dst with
      | none => rfl
      | some d =>
        refine upd_ne _ _ _ _ ?_
        rintro rfl
        exact hd it List.mem_cons_self _ hx hi
    have go : ∀ v O w, Plan P n K l O (updO e it.o.dst v) w → Plan P n (fun O' e' w' => K O' e' w' ∧ ∀ i ∈ ds, e' i = e i) l O (updO e it.o.dst v) w := fun v O w hp =>
      Plan.mono (fun O e' w hk => ⟨hk.1, fun i hi => by rw [hk.2 i hi, key v i hi]⟩) _ _ _ _ (Plan.env l O _ w hl hp)
    unfold Plan at h ⊢
    split
    · rename_i hw
      rw [if_pos hw] at h
      split
      · rename_i hst
        rw [if_pos hst] at h
        obtain ⟨v, ⟨h3, h4⟩ | ⟨S, h2, h3, h4⟩⟩ := h
        · exact ⟨v, .inl ⟨h3, go _ _ _ h4⟩⟩
        · exact ⟨v, .inr ⟨S, h2, h3, go _ _ _ h4⟩⟩
      · rename_i hst
        rw [if_neg hst] at h
        exact uponE_mono (fun v w' hk => hk.imp (fun ⟨a, b⟩ => ⟨a, go _ _ _ b⟩) (Or.imp (fun ⟨a, b⟩ => ⟨a, go _ _ _ b⟩) (fun ⟨a, b⟩ => ⟨a, go _ _ _ b⟩))) h
    · rename_i hw
      rw [if_neg hw] at h
      exact go _ _ _ h

/-- all ways to take one out -/
def picks {α : Type} : List α → List (α × List α)
  | [] => []
  | a :: l => (a, l) :: (picks l).map fun p => (p.1, a :: p.2)
theorem picks_perm {α : Type} {a : α} {r : List α} : ∀ {l : List α}, (a, r) ∈ picks l → l.Perm (a :: r)
  | [], h => by cases h
  | x :: l, h => by
    rcases List.mem_cons.1 h with h | h
    · cases h; exact List.Perm.refl _
    · obtain ⟨⟨b, r'⟩, hb, he⟩ := List.mem_map.1 h
      cases he
      exact ((picks_perm hb).cons x).trans (List.Perm.swap _ _ _)
theorem picks_of {α : Type} {a : α} : ∀ {l : List α}, a ∈ l → ∃ r, (a, r) ∈ picks l
  | x :: l, h => by
    by_cases hx : a ∈ l
    · obtain ⟨r, hr⟩ := picks_of hx
      exact ⟨x :: r, List.mem_cons_of_mem _ (List.mem_map.2 ⟨_, hr, rfl⟩)⟩
    · rcases List.mem_cons.1 h with rfl | h
      · exact ⟨l, List.mem_cons_self⟩
      · exact absurd h hx

/-- The orders fit: only the next effect of the line, or a float, may come up. -/
def okF (ops : Array Oper) (σ2 : List (Nat × Bool)) : Nat → List Nat → List (List (Nat × Bool)) → Array Bool → Bool
  | 0, _, _, _ => false
  | f + 1, A, segs, l =>
    match segs with
    | [] => match A with
      | [] => (match planP ops σ2 l with
        | some l' => Region.ready .any ops l' == []
        | none => false)
      | _ => !(Region.ready .any ops l).isEmpty && (Region.ready .any ops l).all (fun j => A.contains j) && (picks A).all (fun p => okF ops σ2 f p.2 [] (l.setIfInBounds p.1 true))
    | ((i, false) :: st) :: segs' => !(Region.ready .any ops l).isEmpty && (Region.ready .any ops l).all (fun j => (i :: A).contains j) && (picks A).all (fun p => okF ops σ2 f p.2 segs (l.setIfInBounds p.1 true)) &&
      (match planP ops st (l.setIfInBounds i true) with
        | some l' => okF ops σ2 f A segs' l'
        | none => false)
    | _ => false
/-! the same check, each set of floats once -/
def marks (l : Array Bool) (xs : List Nat) : Array Bool := xs.foldl (fun l i => l.setIfInBounds i true) l
theorem set_comm (l : Array Bool) (i j : Nat) : (l.setIfInBounds i true).setIfInBounds j true = (l.setIfInBounds j true).setIfInBounds i true := by
  by_cases h : i = j
  · subst h; rfl
  · exact Array.setIfInBounds_comm _ _ h
theorem marks_perm {xs ys : List Nat} (h : xs.Perm ys) : ∀ l, marks l xs = marks l ys := by
  induction h with
  | nil => intro l; rfl
  | cons x h ih => intro l; exact ih _
  | swap x y l0 => intro l; show marks ((l.setIfInBounds y true).setIfInBounds x true) l0 = marks ((l.setIfInBounds x true).setIfInBounds y true) l0; rw [set_comm]
  | trans h1 h2 ih1 ih2 => intro l; rw [ih1, ih2]
theorem marks_app (l : Array Bool) (xs ys : List Nat) : marks l (xs ++ ys) = marks (marks l xs) ys := by unfold marks; rw [List.foldl_append]
theorem planP_marks (ops : Array Oper) : ∀ (σ : List (Nat × Bool)) (l l' : Array Bool), planP ops σ l = some l' → l' = marks l (σ.map (·.1))
  | [], l, l', h => by simp only [planP, Option.some.injEq] at h; exact h.symm
  | (i, true) :: σ, l, l', h => by
    simp only [planP] at h
    split at h
    · exact planP_marks ops σ _ _ h
    · cases h
  | (i, false) :: σ, l, l', h => by
    simp only [planP] at h
    split at h
    · exact planP_marks ops σ _ _ h
    · cases h
def splits : List Nat → List (List Nat × List Nat)
  | [] => [([], [])]
  | a :: l => (splits l).map (fun p => (a :: p.1, p.2)) ++ (splits l).map (fun p => (p.1, a :: p.2))
theorem splits_of : ∀ {A D A' : List Nat}, (D ++ A').Perm A → ∃ p ∈ splits A, p.1.Perm D ∧ p.2.Perm A'
  | [], D, A', h => by
    have := h.eq_nil
    rw [List.append_eq_nil_iff] at this
    obtain ⟨rfl, rfl⟩ := this
    exact ⟨([], []), List.mem_cons_self, List.Perm.refl _, List.Perm.refl _⟩
  | a :: A, D, A', h => by
    have ha : a ∈ D ++ A' := h.mem_iff.2 List.mem_cons_self
    rcases List.mem_append.1 ha with ha | ha
    · obtain ⟨D1, hD⟩ : ∃ D1, D.Perm (a :: D1) := ⟨D.erase a, List.perm_cons_erase ha⟩
      have h2 : (D1 ++ A').Perm A := List.Perm.cons_inv (a := a) ((hD.symm.append_right A').trans h)
      obtain ⟨p, hp, h3, h4⟩ := splits_of h2
      exact ⟨(a :: p.1, p.2), List.mem_append_left _ (List.mem_map.2 ⟨p, hp, rfl⟩), (h3.cons a).trans hD.symm, h4⟩
    · obtain ⟨D1, hD⟩ : ∃ D1, A'.Perm (a :: D1) := ⟨A'.erase a, List.perm_cons_erase ha⟩
      have h2 : (D ++ D1).Perm A := List.Perm.cons_inv (a := a) (((List.perm_middle.symm).trans (hD.symm.append_left D)).trans h)
      obtain ⟨p, hp, h3, h4⟩ := splits_of h2
      exact ⟨(p.1, a :: p.2), List.mem_append_right _ (List.mem_map.2 ⟨p, hp, rfl⟩), h3, (h4.cons a).trans hD.symm⟩
def okS (ops : Array Oper) (σ2 : List (Nat × Bool)) (A : List Nat) : List (List (Nat × Bool)) → Array Bool → Bool
  | [], l => (splits A).all fun p => match p.2 with
    | [] => (match planP ops σ2 (marks l p.1) with
      | some l' => Region.ready .any ops l' == []
      | none => false)
    | _ => !(Region.ready .any ops (marks l p.1)).isEmpty && (Region.ready .any ops (marks l p.1)).all (fun j => p.2.contains j)
  | ((i, false) :: st) :: segs', l => ((splits A).all fun p => !(Region.ready .any ops (marks l p.1)).isEmpty && (Region.ready .any ops (marks l p.1)).all (fun j => (i :: p.2).contains j) && (planP ops st (marks (l.setIfInBounds i true) p.1)).isSome) &&
    okS ops σ2 A segs' (marks (l.setIfInBounds i true) (st.map (·.1)))
  | _, _ => false
theorem all_contains {A B l : List Nat} (h : A.Perm B) (ha : (l.all fun j => A.contains j) = true) : (l.all fun j => B.contains j) = true := by
  rw [List.all_eq_true] at ha ⊢
  intro j hj
  have := ha j hj
  simp only [List.contains_iff_mem] at this ⊢
  exact h.mem_iff.1 this
theorem marks_set (l : Array Bool) (D : List Nat) (i : Nat) : (marks l D).setIfInBounds i true = marks (l.setIfInBounds i true) D := by
  have h1 : (marks l D).setIfInBounds i true = marks l (D ++ [i]) := (marks_app l D [i]).symm
  rw [h1, marks_perm (List.perm_append_comm (l₁ := D) (l₂ := [i]))]; rfl
theorem okS_okF {ops : Array Oper} {σ2 : List (Nat × Bool)} {A : List Nat} : ∀ (segs : List (List (Nat × Bool))) (l : Array Bool), okS ops σ2 A segs l = true →
    ∀ (f : Nat) (D A' : List Nat), (D ++ A').Perm A → A'.length + segs.length < f → okF ops σ2 f A' segs (marks l D) = true
  | [], l, h => by
    intro f
    induction f with
    | zero => intro D A' _ hf; exact absurd hf (Nat.not_lt_zero _)
    | succ f ih =>
      intro D A' hp hf
      unfold okS at h
      have key := fun (p : List Nat × List Nat) (hp : p ∈ splits A) => List.all_eq_true.1 h p hp
      obtain ⟨p, hm, h1, h2⟩ := splits_of hp
      have hk := key p hm
      have e1 : marks l p.1 = marks l D := marks_perm h1 l
      cases A' with
      | nil =>
        have h3 : p.2 = [] := h2.eq_nil
        rw [h3, e1] at hk
        unfold okF
        exact hk
      | cons a A'' =>
        have h3 : p.2 ≠ [] := fun h0 => by rw [h0] at h2; exact absurd h2.symm.eq_nil (by simp)
        have hk2 : (!(Region.ready .any ops (marks l p.1)).isEmpty && (Region.ready .any ops (marks l p.1)).all (fun j => p.2.contains j)) = true := by
          revert hk
          split
          · rename_i h4; exact absurd h4 h3
          · exact id
        rw [e1, Bool.and_eq_true] at hk2
        unfold okF
        simp only [Bool.and_eq_true]
        refine ⟨⟨hk2.1, all_contains h2 hk2.2⟩, ?_⟩
        rw [List.all_eq_true]
        rintro ⟨b, r⟩ hb
        have hpr := picks_perm hb
        have h5 : (marks l D).setIfInBounds b true = marks l (D ++ [b]) := (marks_app l D [b]).symm
        show okF ops σ2 f r [] ((marks l D).setIfInBounds b true) = true
        rw [h5]
        refine ih (D ++ [b]) r ?_ ?_
        · rw [List.append_assoc]
          exact ((hpr.symm).append_left D).trans hp
        · have := hpr.length_eq
          simp only [List.length_cons, List.length_nil] at this hf ⊢
          omega
  | ((i, false) :: st) :: segs', l, h => by
    unfold okS at h
    rw [Bool.and_eq_true] at h
    have hnx := okS_okF segs' _ h.2
    have key := fun (p : List Nat × List Nat) (hp : p ∈ splits A) => List.all_eq_true.1 h.1 p hp
    intro f
    induction f with
    | zero => intro D A' _ hf; exact absurd hf (Nat.not_lt_zero _)
    | succ f ih =>
      intro D A' hp hf
      obtain ⟨p, hm, h1, h2⟩ := splits_of hp
      have hk := key p hm
      have e1 : marks l p.1 = marks l D := marks_perm h1 l
      have e2 : marks (l.setIfInBounds i true) p.1 = marks (l.setIfInBounds i true) D := marks_perm h1 _
      simp only [Bool.and_eq_true] at hk
      rw [e1, e2] at hk
      unfold okF
      simp only [Bool.and_eq_true]
      refine ⟨⟨⟨hk.1.1, all_contains (h2.cons i) hk.1.2⟩, ?_⟩, ?_⟩
      · rw [List.all_eq_true]
        rintro ⟨b, r⟩ hb
        have hpr := picks_perm hb
        have h5 : (marks l D).setIfInBounds b true = marks l (D ++ [b]) := (marks_app l D [b]).symm
        show okF ops σ2 f r _ ((marks l D).setIfInBounds b true) = true
        rw [h5]
        refine ih (D ++ [b]) r ?_ ?_
        · rw [List.append_assoc]
          exact ((hpr.symm).append_left D).trans hp
        · have := hpr.length_eq
          simp only [List.length_cons] at this hf ⊢
          omega
      · rw [marks_set]
        have h6 := hk.2
        split
        · rename_i l' h7
          have h8 := planP_marks ops _ _ _ h7
          rw [h8, ← marks_app, marks_perm (List.perm_append_comm (l₁ := D)), marks_app]
          exact hnx f D A' hp (by simp only [List.length_cons] at hf; omega)
        · rename_i h7
          rw [h7] at h6; cases h6
  | [] :: _, l, h => by simp [okS] at h
  | ((i, true) :: st) :: segs', l, h => by simp [okS] at h
def segLen (segs : List (List (Nat × Bool))) : Nat := (segs.map List.length).sum
/-- each float is what it is said to be -/
def isFA (P : Program) (ops : Array Oper) (a : FA) : Prop := (∃ ty pos aft, ops[a.i]? = some ⟨some a.d, .alloc a.T, ty, pos, aft, none⟩) ∧ zeroIs P a.T a.ps
def segsOut (ops : Array Oper) (ds : List Nat) (segs : List (List (Nat × Bool))) : Bool := segs.all fun σ => σ.all fun p => match (ops.getD p.1 default).dst with | some d => !ds.contains d | none => true
theorem segsOut_spec {ds : List Nat} {σ : List (Nat × Bool)} (h : (σ.all fun p => match (ops.getD p.1 default).dst with | some d => !ds.contains d | none => true) = true) : ∀ it ∈ items ops σ, ∀ d, it.o.dst = some d → ¬ d ∈ ds := by
  intro it hit d hd
  obtain ⟨p, hp, rfl⟩ := List.mem_map.1 hit
  have := List.all_eq_true.1 h p hp
  simp only [] at hd
  rw [hd] at this
  simpa using this
theorem rest_nil {α : Type} {a : α} {r : List α} : ∀ {l : List α}, (a, r) ∈ picks l → l.length = r.length + 1 := fun h => by
  have := (picks_perm h).length_eq
  simpa using this
theorem map_picks {α β : Type} (f : α → β) {a : α} {r : List α} : ∀ {l : List α}, (a, r) ∈ picks l → (f a, r.map f) ∈ picks (l.map f)
  | x :: l, h => by
    rcases List.mem_cons.1 h with h | h
    · cases h; exact List.mem_cons_self
    · obtain ⟨⟨b, r'⟩, hb, he⟩ := List.mem_map.1 h
      cases he
      exact List.mem_cons_of_mem _ (List.mem_map.2 ⟨_, map_picks f hb, rfl⟩)

theorem fl_sound (hn : n ≤ 1000000) (hs : Region.noSelect ops = true) (hQ : ∀ c a w, ¬ Q (.panic c) a w) {L : List Rg} {σ2 : List (Nat × Bool)} {A : List FA} (hA : ∀ a ∈ A, isFA P ops a) (hnd : (A.map (·.d)).Nodup) :
    ∀ (f : Nat) (Done A' : List FA) (segs : List (List (Nat × Bool))) (l : Array Bool), okF ops σ2 f (A'.map (·.i)) segs l = true → segsOut ops (A.map (·.d)) segs = true → (Done ++ A').Perm A →
      ∀ (w0 : Base) (F C : List Rg) (O : Pend) (e ea : Env) (w : World) (bs : Nat → Nat), (∀ i, ¬ i ∈ A.map (·.d) → ea i = e i) → (∀ a ∈ Done, ea a.d = .pointer (some ⟨bs a.d, 0, none⟩)) → C.Perm (Done.flatMap fun a => rngs (bs a.d) 0 a.ps) →
        St B w0 (F ++ (C ++ L)) w → PIn O (F ++ L) →
        PX P n ops B L (A.map (·.d)) (fun w0 F O e => KE (fun e w => Plan P n (fun _ e w => Q .normal (act n e) w) (items ops σ2) O e w) B w0 F L A [] e) segs w0 F O e →
        wpAnyO P ops Q O (A'.length + segLen segs + σ2.length) l (act n ea) w := by
  intro f
  induction f with
  | zero => intro Done A' segs l h; simp [okF] at h
  | succ f ih =>
    intro Done A' segs l hok hout hperm w0 F C O e ea w bs hea hD hC hst hO hX
    have hOw : ∀ p ∈ O, p.2 w := hO.mid hst
    -- a float comes up
    have float : ∀ (a : FA) (r : List FA), (a, r) ∈ picks A' → okF ops σ2 f (r.map (·.i)) segs (l.setIfInBounds a.i true) = true →
        wpOp P ops Q a.i (fun a' w' => (∀ p ∈ O, waitsO (ops.getD a.i default) p.1 = false → p.2 w') ∧ wpAnyO P ops Q (O.filter fun p => !waitsO (ops.getD a.i default) p.1) (r.length + segLen segs + σ2.length) (l.setIfInBounds a.i true) a' w') (act n ea) w := by
      intro a r hr hok2
      have hp1 := picks_perm hr
      have haA : a ∈ A := hperm.mem_iff.1 (List.mem_append_right _ (hp1.mem_iff.2 List.mem_cons_self))
      obtain ⟨⟨ty, pos, aft, hop⟩, z, hz1, hz2⟩ := hA a haA
      unfold wpOp
      simp only [hop]
      rw [if_pos (show Region.wanted (⟨some a.d, .alloc a.T, ty, pos, aft, none⟩ : Oper) (yielded ops (act n ea).tmps) = true from rfl)]
      refine .inl ?_
      have hrun : (execOp (ev n ea) ⟨some a.d, .alloc a.T, ty, pos, aft, none⟩).run P w = .ok (.value (.pointer (some ⟨w.heap.size, 0, none⟩))) (w.alloc (.cells (catL a.ps).toArray a.T)) := run_v (by
        simp only [Instr.alloc, Sem.run_bind, run_zeroValue hz1, Result.andThen, newVar, newRow, newObj, hz2]
        rfl)
      have hst1 := hst.alloc a.ps a.T
      have hst2 : St B w0 (F ++ ((rngs w.heap.size 0 a.ps ++ C) ++ L)) (w.alloc (.cells (catL a.ps).toArray a.T)) := hst1.perm (by
        rw [List.append_assoc (rngs w.heap.size 0 a.ps) C L, ← List.append_assoc, ← List.append_assoc F]
        exact List.perm_append_comm.append_right _)
      refine upon_wp (fun v w' hk => hk) (K := fun v w' => (∀ p ∈ O, waitsO (ops.getD a.i default) p.1 = false → p.2 w') ∧ wpAnyO P ops Q (O.filter fun p => !waitsO (ops.getD a.i default) p.1) (r.length + segLen segs + σ2.length) (l.setIfInBounds a.i true) (act n (updO ea (some a.d) v)) w') ?_
      rw [hrun]
      refine ⟨fun p hp _ => hO.mid hst2 p hp, anyO_weaken _ O _ _ _ _ (fun p hp => .inl (List.mem_filter.1 hp).1) ?_⟩
      have hperm2 : ((Done ++ [a]) ++ r).Perm A := by
        refine List.Perm.trans ?_ hperm
        rw [List.append_assoc]
        exact (List.Perm.append_left Done hp1.symm)
      have hnd2 : ((Done ++ A').map (·.d)).Nodup := ((hperm.map (·.d)).nodup_iff).2 hnd
      have hne : ∀ q ∈ Done, q.d ≠ a.d := fun q hq he => by
        rw [List.map_append, List.nodup_append] at hnd2
        exact hnd2.2.2 q.d (List.mem_map_of_mem hq) a.d (List.mem_map_of_mem (hp1.mem_iff.2 List.mem_cons_self)) he
      refine ih (Done ++ [a]) r segs _ hok2 hout hperm2 w0 F (rngs w.heap.size 0 a.ps ++ C) O e _ _ (upd bs a.d w.heap.size) (fun i hi => ?_) (fun q hq => ?_) ?_ hst2 hO hX
      · show upd ea a.d _ i = e i
        rw [upd_ne _ _ _ _ (fun hia => hi (by rw [hia]; exact List.mem_map_of_mem haA))]
        exact hea i hi
      · show upd ea a.d _ q.d = _
        rcases List.mem_append.1 hq with hq | hq
        · rw [upd_ne _ _ _ _ (hne q hq), upd_ne _ _ _ _ (hne q hq)]
          exact hD q hq
        · obtain rfl : q = a := by simpa using hq
          rw [upd_same, upd_same]
      · rw [List.flatMap_append]
        have e1 : (Done.flatMap fun q => rngs (upd bs a.d w.heap.size q.d) 0 q.ps) = (Done.flatMap fun q => rngs (bs q.d) 0 q.ps) := by
          have : ∀ (D : List FA), (∀ q ∈ D, q.d ≠ a.d) → (D.flatMap fun q => rngs (upd bs a.d w.heap.size q.d) 0 q.ps) = (D.flatMap fun q => rngs (bs q.d) 0 q.ps) := by
            intro D hD
            induction D with
            | nil => rfl
            | cons x D ihD =>
              rw [List.flatMap_cons, List.flatMap_cons, ihD (fun q hq => hD q (List.mem_cons_of_mem _ hq)), upd_ne _ _ _ _ (hD x List.mem_cons_self)]
          exact this Done hne
        rw [e1]
        simp only [List.flatMap_cons, List.flatMap_nil, List.append_nil, upd_same]
        exact (List.perm_append_comm).trans (hC.append_right _)
    unfold okF at hok
    cases segs with
    | nil =>
      simp only at hok
      cases A' with
      | nil =>
        simp only [List.map_nil] at hok
        split at hok
        · rename_i l'' hp
          rw [beq_iff_eq] at hok
          rw [show ([] : List FA).length + segLen [] + σ2.length = σ2.length + 0 by simp [segLen]]
          refine plan_pre hn hs hQ (f := 0) (fun O e w _ hk => ⟨hok, hk⟩) σ2 O l ea w hp hOw ?_
          rw [List.append_nil] at hperm
          have hX' : KE (fun e w => Plan P n (fun _ e w => Q .normal (act n e) w) (items ops σ2) O e w) B w0 F L A [] e := hX
          have h1 := KE.all bs A [] e hX' w (hst.perm (by
            rw [List.nil_append]
            refine List.Perm.append_left F (List.Perm.append_right L ?_)
            exact hC.trans (hperm.flatMap_right _)))
          have h2 : (A.foldl (fun e a => upd e a.d (.pointer (some ⟨bs a.d, 0, none⟩))) e) = ea := by
            funext i
            rw [foldl_env]
            by_cases hi : i ∈ A.map (·.d)
            · rw [if_pos hi]
              obtain ⟨a, ha, rfl⟩ := List.mem_map.1 hi
              exact (hD a (hperm.mem_iff.2 ha)).symm
            · rw [if_neg hi, hea i hi]
          rw [h2] at h1
          exact h1
        · cases hok
      | cons a0 A0 =>
        simp only [List.map_cons, Bool.and_eq_true, Bool.not_eq_true'] at hok
        obtain ⟨⟨hne, hall⟩, hpk⟩ := hok
        rw [show (a0 :: A0).length + segLen [] + σ2.length = (A0.length + segLen [] + σ2.length) + 1 by simp [segLen]; omega]
        refine ⟨fun h0 => (by rw [h0] at hne; cases hne), fun j hj => ?_⟩
        have h1 := List.all_eq_true.1 hall j hj
        have h2 : j ∈ (a0 :: A0).map (·.i) := by simpa using h1
        obtain ⟨a, ha, rfl⟩ := List.mem_map.1 h2
        obtain ⟨r, hr⟩ := picks_of ha
        have hlen : r.length = A0.length := by have := rest_nil hr; simpa using this.symm
        have hk := List.all_eq_true.1 hpk _ (map_picks (·.i) hr)
        have := float a r hr hk
        rw [hlen] at this
        exact this
    | cons σ segs' =>
      match σ, hok, hout, hX, float with
      | [], hok, _, _, _ => simp at hok
      | (i, true) :: st, hok, _, _, _ => simp at hok
      | (i, false) :: st, hok, hout, hX, float =>
        simp only [Bool.and_eq_true, Bool.not_eq_true'] at hok
        obtain ⟨⟨⟨hne, hall⟩, hpk⟩, hnx⟩ := hok
        have hlen : segLen (((i, false) :: st) :: segs') = st.length + 1 + segLen segs' := by simp [segLen]
        obtain ⟨m, hm⟩ : ∃ m, A'.length + segLen (((i, false) :: st) :: segs') + σ2.length = m + 1 := ⟨A'.length + st.length + segLen segs' + σ2.length, by rw [hlen]; omega⟩
        rw [hm]
        refine ⟨fun h0 => (by rw [h0] at hne; cases hne), fun j hj => ?_⟩
        have h1 := List.all_eq_true.1 hall j hj
        have h2 : j = i ∨ j ∈ A'.map (·.i) := by simpa using h1
        by_cases hji : j ∈ A'.map (·.i)
        · obtain ⟨a, ha, rfl⟩ := List.mem_map.1 hji
          obtain ⟨r, hr⟩ := picks_of ha
          have hl2 := rest_nil hr
          have hk := List.all_eq_true.1 hpk _ (map_picks (·.i) hr)
          have := float a r hr hk
          rw [show r.length + segLen (((i, false) :: st) :: segs') + σ2.length = m by omega] at this
          exact this
        · obtain rfl : j = i := h2.resolve_right hji
          split at hnx
          · rename_i l'' hp
            have hout1 : (((j, false) :: st).all fun p => match (ops.getD p.1 default).dst with | some d => !(A.map (·.d)).contains d | none => true) = true ∧ segsOut ops (A.map (·.d)) segs' = true := by
              unfold segsOut at hout
              rw [List.all_cons, Bool.and_eq_true] at hout
              exact hout
            have hplan := Plan.env (ds := A.map (·.d)) _ O _ w (segsOut_spec hout1.1) (hX C ea w hst)
            rw [ov_self hea] at hplan
            have hmm : m = st.length + (A'.length + segLen segs' + σ2.length) := by rw [hlen] at hm; omega
            rw [hmm]
            refine eff_step hn hj hOw (fun O' e' w' hO' h' => ?_) hplan
            refine plan_pre hn hs hQ (f := A'.length + segLen segs' + σ2.length) (fun O'' e'' w'' hO'' hk => ?_) st O' _ e' w' hp hO' h'
            obtain ⟨⟨w1, F', hk2, hk1, hk3⟩, hk4⟩ := hk
            refine ih Done A' segs' l'' hnx hout1.2 hperm w1 F' C O'' e'' e'' w'' bs (fun _ _ => rfl) (fun a ha => ?_) hC hk2 hk1 hk3
            rw [hk4 a.d (List.mem_map_of_mem (hperm.mem_iff.1 (List.mem_append_left _ ha)))]
            exact hD a ha
          · cases hnx
end

section
variable {P : Program} {n : Nat} {ops : Array Oper} {B : Nat} {w0 : Base}
theorem PX.step {L : List Rg} {ds : List Nat} {Z : Base → List Rg → Pend → Env → Prop} {σ : List (Nat × Bool)} {segs : List (List (Nat × Bool))} {F : List Rg} {O : Pend} {e : Env}
    (h : ∀ C z w, St B w0 (F ++ (C ++ L)) w → Plan P n (fun O' e' w' => ∃ w1 F', St B w1 (F' ++ (C ++ L)) w' ∧ PIn O' (F' ++ L) ∧ PX P n ops B L ds Z segs w1 F' O' e') (items ops σ) O (ov ds z e) w) : PX P n ops B L ds Z (σ :: segs) w0 F O e := h
theorem PX.done {L : List Rg} {ds : List Nat} {Z : Base → List Rg → Pend → Env → Prop} {F : List Rg} {O : Pend} {e : Env} (h : Z w0 F O e) : PX P n ops B L ds Z [] w0 F O e := h
theorem KE.step {G : Env → World → Prop} {F L : List Rg} {a : FA} {A : List FA} {R : List Rg} {e : Env} (h : ∀ b, KE G B w0 F L A (R ++ rngs b 0 a.ps) (upd e a.d (.pointer (some ⟨b, 0, none⟩)))) : KE G B w0 F L (a :: A) R e := h
theorem KE.fin {G : Env → World → Prop} {F L : List Rg} {R : List Rg} {e : Env} (h : ∀ w, St B w0 (F ++ (R ++ L)) w → G e w) : KE G B w0 F L [] R e := h
theorem flget {L : List Rg} {i : Nat} {r : Rg} (h : L[i]? = some r) (C : List Rg) : (C ++ L)[i + C.length]? = some r := by
  rw [List.getElem?_append_right (by omega), Nat.add_sub_cancel]; exact h
theorem flun {L C : List Rg} {i : Nat} {r : Rg} (h : (C ++ L)[i + C.length]? = some r) : L[i]? = some r := by
  rw [List.getElem?_append_right (by omega), Nat.add_sub_cancel] at h; exact h

end

section regions
variable {P : Program} {n : Nat} {R : Exit → Env → World → Prop} {e : Env} {w : World} {B : Nat} {w0 : Base}
def planFl (ops : Array Oper) (n : Nat) (A : List (Nat × Nat)) (σ0 : List (Nat × Bool)) (segs : List (List (Nat × Bool))) (σ2 : List (Nat × Bool)) : Bool :=
  Region.noSelect ops && Nat.ble n 1000000 && (σ0.length + (A.length + segLen segs + σ2.length) == ops.size) && segsOut ops (A.map (·.2)) segs && decide ((A.map (·.2)).Nodup) &&
  (match planP ops σ0 (Array.replicate ops.size false) with
    | some l => okS ops σ2 (A.map (·.1)) segs l
    | none => false)
def isAlloc (ops : Array Oper) (a : Nat × Nat × TypeId) : Bool := match ops[a.1]? with
  | some ⟨some d, .alloc t, _, _, _, none⟩ => d == a.2.1 && t == a.2.2
  | _ => false
inductive ZeroL (P : Program) : List (TypeId × List (Nat × (Nat → Value))) → Prop
  | nil : ZeroL P []
  | cons {T : TypeId} {ps : List (Nat × (Nat → Value))} {l : List (TypeId × List (Nat × (Nat → Value)))} (h : zeroIs P T ps) (t : ZeroL P l) : ZeroL P ((T, ps) :: l)
theorem ZeroL.mem {P : Program} {l : List (TypeId × List (Nat × (Nat → Value)))} (h : ZeroL P l) : ∀ q ∈ l, zeroIs P q.1 q.2 := by
  induction h with
  | nil => intro q hq; cases hq
  | cons h t ih =>
    intro q hq
    rcases List.mem_cons.1 hq with rfl | hq
    · exact h
    · exact ih q hq
theorem W.regionX {id : Nat} {ops : Array Oper} {L : List Rg} (hm : P.follows .mixedOrders = true) (A : List FA) (σ0 : List (Nat × Bool)) (segs : List (List (Nat × Bool))) (σ2 : List (Nat × Bool))
    (hB : planFl ops n (A.map fun a => (a.i, a.d)) σ0 segs σ2 = true) (hal : (A.map fun a => (a.i, a.d, a.T)).all (isAlloc ops) = true) (hz : ZeroL P (A.map fun a => (a.T, a.ps)))
    (h : Plan P n (fun O' e' w' => ∃ w1 F', St B w1 (F' ++ L) w' ∧ PIn O' (F' ++ L) ∧ PX P n ops B L (A.map (·.d)) (fun w0 F O e => KE (fun e w => Plan P n (fun _ e w => R .normal e w) (items ops σ2) O e w) B w0 F L A [] e) segs w1 F' O' e') (items ops σ0) [] e w.drew) :
    W P n (.region id ops true) R e w := by
  simp only [planFl, Bool.and_eq_true, beq_iff_eq, decide_eq_true_iff, List.length_map, List.map_map] at hB
  obtain ⟨⟨⟨⟨⟨hs, hn⟩, hl⟩, hout⟩, hnd⟩, hp⟩ := hB
  refine wp_region_any hm (anyO_any _ [] _ _ _ ?_)
  split at hp
  · rename_i l0 hp0
    have hfa : ∀ a ∈ A, isFA P ops a := fun a ha => by
      have h1 := List.all_eq_true.1 hal _ (List.mem_map.2 ⟨a, ha, rfl⟩)
      refine ⟨?_, hz.mem _ (List.mem_map.2 ⟨a, ha, rfl⟩)⟩
      unfold isAlloc at h1
      split at h1
      · rename_i d t ty pos aft he
        simp only [Bool.and_eq_true, beq_iff_eq] at h1
        obtain ⟨rfl, rfl⟩ := h1
        exact ⟨ty, pos, aft, he⟩
      · cases h1
    rw [← hl]
    rw [← hl] at hp0
    have hw : ({ w with drawn := w.drawn + 1 } : World) = w.drew := rfl
    rw [hw]
    refine plan_pre (by simpa using hn) hs (fun c a w hq => hq) (f := A.length + segLen segs + σ2.length) (fun O' e' w' hO' hk => ?_) σ0 [] _ e _ hp0 (fun p hp => by cases hp) h
    obtain ⟨w1, F', hk2, hk1, hk3⟩ := hk
    refine fl_sound (L := L) (A := A) (by simpa using hn) hs (fun c a w hq => hq) hfa hnd (A.length + segs.length + 1) [] A segs l0 (okS_okF segs l0 hp (A.length + segs.length + 1) [] (A.map (·.i)) (List.Perm.refl _) (by rw [List.length_map]; omega)) hout (List.Perm.refl _) w1 F' [] O' e' e' w' (fun _ => 0) (fun _ _ => rfl) (fun a ha => by cases ha) (List.Perm.refl _) hk2 hk1 ?_
    revert hk3
    generalize w.drew = wd at *
    intro hk3
    exact PX.mono (fun w0 F O e hz => KE.mono (fun e w hg => Plan.mono (fun O e w hr => ⟨e, rfl, hr⟩) _ _ _ _ hg) A _ _ hz) segs w1 F' O' e' hk3
  · cases hp
end regions
end Go.LW

/-
  ENGINE X, PART 8 (own work): slices of elements of many cells: views, own ones; structs compared.
-/
namespace Go.LW
set_option linter.unusedSimpArgs false
set_option linter.unusedVariables false
set_option linter.unusedSectionVars false
open Go Go.RowKit

/-- A kind of element: its plain form (α), what memory adds (β), its cells, what must hold of what it leads to. -/
structure EL where
  (α β : Type)
  sz : Nat
  E : β → α → List (Nat × (Nat → Value))
  val : β → α → Value
  ck : Value → Prop
  side : List Rg → β → α → Prop
  hlen : ∀ b x, (catL (E b x)).length = sz
  hval : ∀ b x, cellsL (val b x) = catL (E b x)
  one : ∀ b x v, v ∈ catL (E b x) → v.oneCell' = true
  ckE : ∀ b x v, v ∈ catL (E b x) → ck v
  mono : ∀ C L b x, side L b x → side (C ++ L) b x
def EL.cells (D : EL) (L : List Rg) (G : Nat → Value) (x : D.α) : Prop := ∃ b, D.side L b x ∧ ∀ k v, (catL (D.E b x))[k]? = some v → G k = v
theorem EL.cells.app {D : EL} {L : List Rg} {G : Nat → Value} {x : D.α} (h : D.cells L G x) (C : List Rg) : D.cells (C ++ L) G x := by
  obtain ⟨b, h1, h2⟩ := h
  exact ⟨b, D.mono C L b x h1, h2⟩
theorem EL.cells.congr {D : EL} {L : List Rg} {G G' : Nat → Value} {x : D.α} (h : D.cells L G x) (hG : ∀ k, k < D.sz → G k = G' k) : D.cells L G' x := by
  obtain ⟨b, h1, h2⟩ := h
  refine ⟨b, h1, fun k v hv => ?_⟩
  rw [← hG k (by rw [← D.hlen b x]; exact (List.getElem?_eq_some_iff.1 hv).1)]
  exact h2 k v hv
theorem EL.cells.one {D : EL} {L : List Rg} {G : Nat → Value} {x : D.α} (h : D.cells L G x) {k : Nat} (hk : k < D.sz) : (G k).oneCell' = true := by
  obtain ⟨b, h1, h2⟩ := h
  have hk' : k < (catL (D.E b x)).length := by rw [D.hlen]; exact hk
  rw [h2 k _ (List.getElem?_eq_getElem hk')]
  exact D.one b x _ (List.getElem_mem hk')
theorem EL.cells.ck {D : EL} {L : List Rg} {G : Nat → Value} {x : D.α} (h : D.cells L G x) {k : Nat} (hk : k < D.sz) : D.ck (G k) := by
  obtain ⟨b, h1, h2⟩ := h
  have hk' : k < (catL (D.E b x)).length := by rw [D.hlen]; exact hk
  rw [h2 k _ (List.getElem?_eq_getElem hk')]
  exact D.ckE b x _ (List.getElem_mem hk')

/-- The slice (a, len, cc) reads as X, out of range i (or it is empty). -/
def LV (D : EL) (L : List Rg) (i : Nat) (a : Option Addr) (len cc : Nat) (X : List D.α) : Prop :=
  X.length = len ∧ len ≤ cc ∧ (0 < len → ∃ (offs ms js os : Nat) (ps : Option Nat) (G : Nat → Value) (rw : Bool), L[i]? = some ⟨ps, offs, ms, G, rw⟩ ∧ SlV a ps os len ∧ os = offs + js ∧ js + len * D.sz ≤ ms ∧ ∀ j x, X[j]? = some x → D.cells L (fun k => G (js + j * D.sz + k)) x)
structure LO (D : EL) (L : List Rg) (a : Option Addr) (pb : Option Nat) (len cap : Nat) (F : Nat → Value) (X : List D.α) : Prop where
  ho : OwnSl a pb cap
  hc : len ≤ cap
  hl : X.length = len
  hF : ∀ j x, X[j]? = some x → D.cells L (fun k => F (j * D.sz + k)) x
  hK : ∀ q, q < cap * D.sz → D.ck (F q)

theorem LV.hl {D : EL} {L : List Rg} {i : Nat} {a : Option Addr} {len cc : Nat} {X : List D.α} (h : LV D L i a len cc X) : X.length = len := h.1
theorem LV.le {D : EL} {L : List Rg} {i : Nat} {a : Option Addr} {len cc : Nat} {X : List D.α} (h : LV D L i a len cc X) : len ≤ cc := h.2.1
theorem LV.nil {D : EL} {L : List Rg} (i : Nat) {a : Option Addr} {cc : Nat} : LV D L i a 0 cc [] := ⟨rfl, Nat.zero_le _, fun h => absurd h (Nat.lt_irrefl 0)⟩
theorem LV.app {D : EL} {L : List Rg} {i : Nat} {a : Option Addr} {len cc : Nat} {X : List D.α} (h : LV D L i a len cc X) (C : List Rg) : LV D (C ++ L) (i + C.length) a len cc X := by
  obtain ⟨hl, hc, h⟩ := h
  refine ⟨hl, hc, fun hn => ?_⟩
  obtain ⟨offs, ms, js, os, ps, G, rw, h1, h2, h3, h4, h5⟩ := h hn
  exact ⟨offs, ms, js, os, ps, G, rw, by rw [List.getElem?_append_right (by omega), Nat.add_sub_cancel]; exact h1, h2, h3, h4, fun j x hx => (h5 j x hx).app C⟩
/-- elements that lead nowhere -/
def EL.flat (D : EL) : Prop := ∀ L L' b x, D.side L b x → D.side L' b x
theorem LV.move {D : EL} (hf : D.flat) {L L' : List Rg} {i i' : Nat} {a : Option Addr} {len cc : Nat} {X : List D.α} (h : LV D L i a len cc X) {r : Rg} (h1 : L[i]? = some r) (h2 : L'[i']? = some r) : LV D L' i' a len cc X := by
  obtain ⟨hl, hc, h⟩ := h
  refine ⟨hl, hc, fun hn => ?_⟩
  obtain ⟨offs, ms, js, os, ps, G, rw, g1, g2, g3, g4, g5⟩ := h hn
  rw [h1] at g1
  obtain rfl := Option.some.inj g1
  exact ⟨offs, ms, js, os, ps, G, rw, h2, g2, g3, g4, fun j x hx => by
    obtain ⟨b, k1, k2⟩ := g5 j x hx
    exact ⟨b, hf _ _ _ _ k1, k2⟩⟩
theorem LV.unapp {D : EL} (hf : D.flat) {D' L : List Rg} {i : Nat} {a : Option Addr} {len cc : Nat} {X : List D.α} (h : LV D (D' ++ L) (i + D'.length) a len cc X) : LV D L i a len cc X := by
  obtain ⟨hl, hc, h⟩ := h
  refine ⟨hl, hc, fun hn => ?_⟩
  obtain ⟨offs, ms, js, os, ps, G, rw, g1, g2, g3, g4, g5⟩ := h hn
  rw [List.getElem?_append_right (by omega), Nat.add_sub_cancel] at g1
  exact ⟨offs, ms, js, os, ps, G, rw, g1, g2, g3, g4, fun j x hx => by
    obtain ⟨b, k1, k2⟩ := g5 j x hx
    exact ⟨b, hf _ _ _ _ k1, k2⟩⟩
/-- a part of a list -/
def sgl {α : Type} (X : List α) (lo hi : Nat) : List α := (X.drop lo).take (hi - lo)
theorem sgl_length {α : Type} {X : List α} {lo hi : Nat} (h : lo ≤ hi ∧ hi ≤ X.length) : (sgl X lo hi).length = hi - lo := by
  unfold sgl; rw [List.length_take, List.length_drop]; omega
theorem LV.sgl {D : EL} {L : List Rg} {i : Nat} {a : Option Addr} {len cc : Nat} {X : List D.α} (h : LV D L i a len cc X) {lo hi : Nat} (hb : lo ≤ hi ∧ hi ≤ len) : LV D L i (if cc = lo then a else a.map (·.add (lo * D.sz))) (hi - lo) (cc - lo) (sgl X lo hi) := by
  obtain ⟨hl, hc, h⟩ := h
  refine ⟨sgl_length (by omega), by omega, fun hn => ?_⟩
  obtain ⟨offs, ms, js, os, ps, G, rw, h1, h2, h3, h4, h6⟩ := h (by omega)
  have hm : (lo + (hi - lo)) * D.sz = lo * D.sz + (hi - lo) * D.sz := Nat.add_mul _ _ _
  have hm2 : (lo + (hi - lo)) * D.sz ≤ len * D.sz := Nat.mul_le_mul_right _ (by omega)
  refine ⟨offs, ms, js + lo * D.sz, os + lo * D.sz, ps, G, rw, h1, ?_, by omega, by omega, fun j x hx => ?_⟩
  · intro hn
    obtain ⟨b, hb1, hb2⟩ := h2 (by omega)
    refine ⟨b, hb1, ?_⟩
    rw [if_neg (by omega), hb2]
    simp [Addr.add]
  · unfold LW.sgl at hx
    have hj : j < hi - lo := by
      have := (List.getElem?_eq_some_iff.1 hx).1
      rw [List.length_take] at this; omega
    rw [List.getElem?_take_of_lt hj, List.getElem?_drop] at hx
    have := h6 (lo + j) x hx
    rw [Nat.add_mul] at this
    refine this.congr fun k _ => ?_
    show G _ = G _
    congr 1; omega
theorem LO.lv {D : EL} {L0 L : List Rg} {a : Option Addr} {pb : Option Nat} {len cap : Nat} {F : Nat → Value} {X : List D.α} (h : LO D L0 a pb len cap F X) (hs : ∀ b x, D.side L0 b x → D.side L b x) (k : Nat) (hL : L[k]? = some ⟨pb, 0, cap * D.sz, F, true⟩) : LV D L k a len cap X := by
  refine ⟨h.hl, h.hc, fun _ => ⟨0, cap * D.sz, 0, 0, pb, F, true, hL, h.ho.sl h.hc, rfl, by rw [Nat.zero_add]; exact Nat.mul_le_mul_right _ h.hc, fun j x hx => ?_⟩⟩
  obtain ⟨b, h1, h2⟩ := h.hF j x hx
  exact ⟨b, hs b x h1, fun k v hv => by rw [Nat.zero_add]; exact h2 k v hv⟩
theorem LO.nil {D : EL} {L : List Rg} {F : Nat → Value} : LO D L none none 0 0 F [] := ⟨OwnSl.nil, Nat.le_refl _, rfl, fun j x hx => by simp at hx, fun q hq => absurd hq (by simp)⟩
theorem LO.re {D : EL} {L0 L : List Rg} {a : Option Addr} {pb : Option Nat} {len cap : Nat} {F : Nat → Value} {X : List D.α} (h : LO D L0 a pb len cap F X) (hs : ∀ b x, D.side L0 b x → D.side L b x) : LO D L a pb len cap F X :=
  ⟨h.ho, h.hc, h.hl, fun j x hx => by
    obtain ⟨b, h1, h2⟩ := h.hF j x hx
    exact ⟨b, hs b x h1, h2⟩, h.hK⟩

theorem AGL_congr {ps qs : List (Nat × (Nat → Value))} (h : catL ps = catL qs) : AG ps = AG qs := by unfold AG; rw [h]
theorem getD_of {α : Type} {X : List α} {j : Nat} (hj : j < X.length) (dflt : α) : X[j]? = some (X.getD j dflt) := by
  rw [List.getD_eq_getElem?_getD, List.getElem?_eq_getElem hj]; rfl

/-! append, the old slice kept beside -/
section keep
variable {P : Program} {B : Nat} {w0 : Base} {w : World} {L : List Rg}
theorem St.emptied (h : St B w0 L w) {k : Nat} {r : Rg} (hk : k < L.length) (f : Nat → Value) : St B w0 (L.set k r) w → St B w0 (r :: L.set k ⟨none, 0, 0, f, true⟩) w := fun h1 => by
  have h2 := h1.nilE f
  refine h2.perm ?_
  have e1 : ∀ x : Rg, L.set k x = L.take k ++ x :: L.drop (k + 1) := fun x => List.set_eq_take_append_cons_drop.trans (by rw [if_pos hk])
  rw [e1, e1]
  have p1 : (L.take k ++ r :: L.drop (k + 1)).Perm (r :: (L.take k ++ L.drop (k + 1))) := List.perm_middle
  have p2 : (L.take k ++ (⟨none, 0, 0, f, true⟩ : Rg) :: L.drop (k + 1)).Perm (⟨none, 0, 0, f, true⟩ :: (L.take k ++ L.drop (k + 1))) := List.perm_middle
  exact ((p1.cons _).trans (List.Perm.swap _ _ _)).trans (p2.symm.cons _)
theorem St.instead' {r r' : Rg} {k : Nat} (hk : k < L.length) (h : St B w0 (r :: L.set k r') w) : St B w0 (L.set k r) w := by
  have h1 := h.instead (k := k) (by simpa using hk)
  rw [List.set_set] at h1
  exact h1
theorem run_appendK (hst : St B w0 L w) {t t' ty : TypeId} {s by' len cap n k : Nat} {z : Value} {zf : Nat → Value} {a : Option Addr} {pb : Option Nat} {F g : Nat → Value} {y : Value} (he : elB P t s by' z) (hzs : z.cells.size = s) (hzf : ∀ q, q < s → z.cells[q]! = zf q) (hL : L[k]? = some ⟨pb, 0, cap * s, F, true⟩) (ho : OwnSl a pb cap)
    (hsrc : Src P s t' y n ((List.range (n * s)).map g) w) (hlc : len ≤ cap) (hb : (len + n) * by' ≤ 140737488355328) (h63 : len + n < 9223372036854775808) :
    ∃ w' a' pb' cap' ip r, (Builtin.append_ #[t, t'] ty #[.slice a len cap, y]).run P w = .ok (.slice a' (len + n) cap') w' ∧ OwnSl a' pb' cap' ∧ (len + n ≤ cap' ∧ cap ≤ cap') ∧
      St B w0 (⟨pb', 0, cap' * s, fun q => if ip = true ∨ q < (len + n) * s then spl F (len * s) (n * s) g q else zf (q % s), true⟩ :: L.set k r) w' ∧
      ((ip = true ∧ a' = a ∧ pb' = pb ∧ cap' = cap) ∨ (ip = false ∧ r = ⟨pb, 0, cap * s, F, true⟩)) := by
  obtain ⟨el, i, hu, hi, hs1, hby, hz⟩ := he
  subst hs1
  have hk : k < L.length := (List.getElem?_eq_some_iff.1 hL).1
  have hfun : (fun q => if true = true ∨ q < (len + n) * i.size then spl F (len * i.size) (n * i.size) g q else zf (q % i.size)) = spl F (len * i.size) (n * i.size) g := by funext q; rw [if_pos (.inl rfl)]
  by_cases hroom : len + n ≤ cap
  · by_cases h0 : n = 0
    · subst h0
      refine ⟨w, a, pb, cap, true, ⟨none, 0, 0, fun _ => undef, true⟩, run_append_nothing w t t' ty el i hu hi a len cap hlc y (by simpa using hsrc), ho, ⟨hroom, Nat.le_refl _⟩, ?_, .inl ⟨rfl, rfl, rfl, rfl⟩⟩
      rw [hfun]
      have h1 : spl F (len * i.size) (0 * i.size) g = F := by rw [Nat.zero_mul]; funext q; rw [spl_out _ _ _ _ _ (by omega)]
      rw [h1]
      refine St.emptied hst hk _ ?_
      have h2 : L.set k ⟨pb, 0, cap * i.size, F, true⟩ = L := by
        obtain ⟨hk, hLk⟩ := List.getElem?_eq_some_iff.1 hL
        rw [← hLk]; exact List.set_getElem_self hk
      rw [h2]; exact hst
    · obtain ⟨b, hpb, ha⟩ : ∃ b, pb = some b ∧ a = some ⟨b, 0, none⟩ := by
        rcases ho with ⟨h1, _⟩ | h1
        · omega
        · exact h1
      subst hpb ha
      have hfit : len * i.size + n * i.size ≤ cap * i.size := by rw [← Nat.add_mul]; exact Nat.mul_le_mul_right _ hroom
      have hth := hst.thereR hL hfit
      refine ⟨_, some ⟨b, 0, none⟩, some b, cap, true, ⟨none, 0, 0, fun _ => undef, true⟩, run_append_room_src w t t' ty el i hu hi b 0 len cap y n _ hsrc hroom (fun j hj => (hth j (by simpa using hj)).1) (fun j hj => (hth j (by simpa using hj)).2), .inr ⟨b, rfl, rfl⟩, ⟨hroom, Nat.le_refl _⟩, ?_, .inl ⟨rfl, rfl, rfl, rfl⟩⟩
      rw [hfun]
      have h5 := hst.setRange (g := g) hL (n * i.size) hfit
      have h6 := h5.nilE (fun _ => undef)
      refine h6.perm ?_
      have e1 : ∀ x : Rg, L.set k x = L.take k ++ x :: L.drop (k + 1) := fun x => List.set_eq_take_append_cons_drop.trans (by rw [if_pos hk])
      rw [e1, e1]
      exact ((List.perm_middle.cons _).trans (List.Perm.swap _ _ _)).trans ((List.perm_middle (l₁ := L.take k) (a := (⟨none, 0, 0, fun _ => undef, true⟩ : Rg)) (l₂ := L.drop (k + 1))).symm.cons _)
  · have hcap := grownCap_ge w (len + n) cap el
    have hold : (Builtin.firstCells i.size len (.slice a len cap)).run P w.drew = .ok ((List.range (len * i.size)).map F).toArray w.drew := by
      by_cases h0 : len = 0
      · subst h0
        cases a with
        | none => simp [Builtin.firstCells]
        | some a => simp [Builtin.firstCells, loadCells]; rfl
      · obtain ⟨b, hpb, ha⟩ : ∃ b, pb = some b ∧ a = some ⟨b, 0, none⟩ := by
          rcases ho with ⟨h1, _⟩ | h1
          · omega
          · exact h1
        subst hpb ha
        simp only [Builtin.firstCells]
        refine run_loadCells w.drew ⟨b, 0, none⟩ (len * i.size) F (fun q hq => ?_)
        have hfit : len * i.size ≤ cap * i.size := Nat.mul_le_mul_right _ hlc
        obtain ⟨b', hp', hcell⟩ := hst.drew.mem hL q (show q < cap * i.size by omega)
        obtain rfl : b = b' := Option.some.inj hp'
        rw [Addr.add_mid]
        exact hcell
    have hfit := growslice_fits (need := len + n) (old := cap) (bytes := i.bytes) (by omega) (by rw [hby]; exact hb)
    have hr := run_append_grow_src (P := P) w t t' ty el i z hu hi hz a len cap _ hold y n _ hsrc (by omega) (by omega) hfit
    have hcm : (len + n) * i.size + (grownCap w (len + n) cap el - (len + n)) * i.size = grownCap w (len + n) cap el * i.size := by rw [← Nat.add_mul]; congr 1; omega
    have hln : (len + n) * i.size = len * i.size + n * i.size := Nat.add_mul _ _ _
    have hcat : (catL [(grownCap w (len + n) cap el * i.size, fun q => if false = true ∨ q < (len + n) * i.size then spl F (len * i.size) (n * i.size) g q else zf (q % i.size))]).toArray = ((List.range (len * i.size)).map F ++ (List.range (n * i.size)).map g).toArray ++ Builtin.zeroCells z.cells (grownCap w (len + n) cap el - (len + n)) := by
      apply Array.ext'
      apply List.ext_getElem?
      intro q
      rw [catL_one]
      have hzc : (Builtin.zeroCells z.cells (grownCap w (len + n) cap el - (len + n))).toList = (List.range ((grownCap w (len + n) cap el - (len + n)) * i.size)).map fun x => zf (x % i.size) := by
        unfold Builtin.zeroCells
        rw [hzs]
        simp only [Array.toList_map, Array.toList_range]
        refine List.map_congr_left fun x hx => ?_
        have hx := List.mem_range.1 hx
        have hpos : 0 < i.size := by
          rcases Nat.eq_zero_or_pos i.size with h0 | h0
          · rw [h0] at hx; omega
          · exact h0
        exact hzf _ (Nat.mod_lt _ hpos)
      simp only [Array.toList_append, hzc]
      by_cases h1 : q < len * i.size
      · rw [List.append_assoc, List.getElem?_append_left (by simpa using h1)]
        simp [show q < grownCap w (len + n) cap el * i.size by omega, h1, show q < (len + n) * i.size by omega, spl, show ¬ (len * i.size ≤ q ∧ q < len * i.size + n * i.size) by omega]
      · rw [List.append_assoc, List.getElem?_append_right (by simpa using h1)]
        by_cases h2 : q < (len + n) * i.size
        · rw [List.getElem?_append_left (by simp; omega)]
          simp [show q < grownCap w (len + n) cap el * i.size by omega, h2, spl, show len * i.size ≤ q ∧ q < len * i.size + n * i.size by omega, show q - len * i.size < n * i.size by omega]
        · rw [List.getElem?_append_right (by simp; omega)]
          by_cases h3 : q < grownCap w (len + n) cap el * i.size
          · have h4 : (q - len * i.size - n * i.size) % i.size = q % i.size := by
              have h5 : q = (q - len * i.size - n * i.size) + i.size * (len + n) := by rw [Nat.mul_comm i.size, hln]; omega
              conv => rhs; rw [h5]
              rw [Nat.add_mul_mod_self_left]
            simp [h3, h2, show q - len * i.size - n * i.size < (grownCap w (len + n) cap el - (len + n)) * i.size by omega, h4]
          · simp [h3, show ¬ (q - len * i.size - n * i.size < (grownCap w (len + n) cap el - (len + n)) * i.size) by omega]
    rw [← hcat] at hr
    refine ⟨_, some ⟨w.heap.size, 0, none⟩, some w.heap.size, grownCap w (len + n) cap el, false, ⟨pb, 0, cap * i.size, F, true⟩, hr, .inr ⟨_, rfl, rfl⟩, ⟨hcap, by omega⟩, ?_, .inr ⟨rfl, rfl⟩⟩
    have := hst.drew.alloc [(grownCap w (len + n) cap el * i.size, fun q => if false = true ∨ q < (len + n) * i.size then spl F (len * i.size) (n * i.size) g q else zf (q % i.size))] el
    have h2 : L.set k ⟨pb, 0, cap * i.size, F, true⟩ = L := by
      obtain ⟨hk, hLk⟩ := List.getElem?_eq_some_iff.1 hL
      rw [← hLk]; exact List.set_getElem_self hk
    rw [h2]
    exact this
end keep
section run
variable {P : Program} {B : Nat} {w0 : Base} {w : World} {L : List Rg}
theorem run_firstCellsS {a : Option Addr} {pb : Option Nat} {s o len cap cnt off m j : Nat} {f : Nat → Value} {rw : Bool} (hst : St B w0 L w) {k : Nat} (hL : L[k]? = some ⟨pb, off, m, f, rw⟩) (hs : SlV a pb o len) (ho : o = off + j) (hc : cnt ≤ len) (hj : j + cnt * s ≤ m) :
    (Builtin.firstCells s cnt (.slice a len cap)).run P w = .ok ((List.range (cnt * s)).map fun q => f (j + q)).toArray w := by
  by_cases h0 : cnt = 0
  · subst h0
    cases a with
    | none => simp [Builtin.firstCells]
    | some a => simp [Builtin.firstCells, loadCells]; rfl
  · obtain ⟨b, hp, ha⟩ := hs (by omega)
    subst ha
    simp only [Builtin.firstCells]
    refine run_loadCells w ⟨b, o, none⟩ (cnt * s) (fun q => f (j + q)) (fun q hq => ?_)
    obtain ⟨b', hp', hcell⟩ := hst.mem hL (j + q) (show j + q < m by omega)
    simp only at hp'
    obtain rfl : b = b' := by rw [hp] at hp'; exact Option.some.inj hp'
    rw [Addr.add_mid, ho, Nat.add_assoc, hcell]
theorem run_appendS' (hst : St B w0 L w) {t t' ty : TypeId} {s by' len cap n k : Nat} {z : Value} {zf : Nat → Value} {a : Option Addr} {pb : Option Nat} {F g : Nat → Value} {y : Value} (he : elB P t s by' z) (hzs : z.cells.size = s) (hzf : ∀ q, q < s → z.cells[q]! = zf q) (hL : L[k]? = some ⟨pb, 0, cap * s, F, true⟩) (ho : OwnSl a pb cap)
    (hsrc : Src P s t' y n ((List.range (n * s)).map g) w) (hlc : len ≤ cap) (hb : (len + n) * by' ≤ 140737488355328) (h63 : len + n < 9223372036854775808) :
    ∃ w' a' pb' cap' ip, (Builtin.append_ #[t, t'] ty #[.slice a len cap, y]).run P w = .ok (.slice a' (len + n) cap') w' ∧ OwnSl a' pb' cap' ∧ len + n ≤ cap' ∧ St B w0 (L.set k ⟨pb', 0, cap' * s, fun q => if ip = true ∨ q < (len + n) * s then spl F (len * s) (n * s) g q else zf (q % s), true⟩) w' ∧ (ip = true → cap' ≤ cap) := by
  have hk : k < L.length := (List.getElem?_eq_some_iff.1 hL).1
  obtain ⟨w', a', pb', cap', ip, r, h1, h2, h3, h4, h5⟩ := run_appendK (P := P) (ty := ty) hst he hzs hzf hL ho hsrc hlc hb h63
  refine ⟨w', a', pb', cap', ip, h1, h2, h3.1, St.instead' hk h4, fun hip => ?_⟩
  rcases h5 with ⟨_, _, _, h5⟩ | ⟨h5, _⟩
  · omega
  · rw [h5] at hip; cases hip
theorem Src.ofLV {D : EL} (hst : St B w0 L w) {t' e' : TypeId} (hk : P.underlying t' = some (.slice e')) {a : Option Addr} {ix len cap : Nat} {X : List D.α} (h : LV D L ix a len cap X) :
    ∃ g : Nat → Value, Src P D.sz t' (.slice a len cap) len ((List.range (len * D.sz)).map g) w ∧ ∀ j x, X[j]? = some x → D.cells L (fun k => g (j * D.sz + k)) x := by
  obtain ⟨hl, hc, h⟩ := h
  by_cases hn : 0 < len
  · obtain ⟨offs, ms, js, os, ps, G, rw, h1, h2, h3, h4, h5⟩ := h hn
    refine ⟨fun q => G (js + q), ⟨.inl ⟨e', hk⟩, fun _ => rfl, run_firstCellsS hst h1 h2 h3 (Nat.le_refl _) h4, run_firstCellsS hst.drew h1 h2 h3 (Nat.le_refl _) h4, by simp, fun u hu => ?_⟩, fun j x hx => ?_⟩
    · obtain ⟨q, hq, rfl⟩ := List.mem_map.1 hu
      have hq := List.mem_range.1 hq
      have hs : 0 < D.sz := by
        rcases Nat.eq_zero_or_pos D.sz with h0 | h0
        · rw [h0, Nat.mul_zero] at hq; omega
        · exact h0
      have hj : q / D.sz < X.length := by rw [hl]; exact (Nat.div_lt_iff_lt_mul hs).2 hq
      have := (h5 _ _ (List.getElem?_eq_getElem hj)).one (Nat.mod_lt q hs)
      have e : js + q / D.sz * D.sz + q % D.sz = js + q := by rw [Nat.add_assoc, Nat.div_add_mod']
      rw [e] at this
      exact this
    · refine (h5 j x hx).congr fun k _ => ?_
      show G _ = G _
      congr 1; omega
  · obtain rfl : len = 0 := by omega
    refine ⟨fun _ => undef, ⟨.inl ⟨e', hk⟩, fun _ => rfl, ?_, ?_, by simp, by simp⟩, fun j x hx => ?_⟩
    · cases a <;> simp [Builtin.firstCells, loadCells]
      all_goals rfl
    · cases a <;> simp [Builtin.firstCells, loadCells]
      all_goals rfl
    · have := (List.getElem?_eq_some_iff.1 hx).1
      omega
end run

section step
variable {P : Program} {n : Nat} {K : Pend → Env → World → Prop} {l : List It} {O O' : Pend} {e : Env} {w : World} {i ty : Nat} {d : Tmp} {pos : String} {aft : Array Edge} {gd g : Option (Nat × Bool)}
variable {B : Nat} {w0 : Base} {L L' : List Rg} {D : EL}

/-- the address of an element -/
theorem Plan.idxLV {t : TypeId} {x y : Operand} {k : IntKind} {ix len cc j sz : Nat} {a : Option Addr} {X : List D.α} (hX : LV D L ix a len cc X) (ha : slB P t sz = true) (hg : wantedE n e g = true) (hx : ev n e x = .slice a len cc) (hy : ev n e y = .int k (j : Int)) (hj : j < len)
    (h : Plan P n K l O (upd e d (.pointer (a.map fun z => ⟨z.block, z.off + j * sz, none⟩))) w) : Plan P n K (⟨i, true, ⟨some d, .indexAddr t x y, ty, pos, aft, gd⟩, g⟩ :: l) O e w := by
  obtain ⟨hl, hc, hX⟩ := hX
  obtain ⟨offs, ms, js, os, ps, G, rw, h1, h2, h3⟩ := hX (by omega)
  obtain ⟨b, hb1, hb2⟩ := h2 (by omega)
  subst hb2
  exact Plan.idxSl ha hg hx hy hj h
theorem cells_at {len j js ms s : Nat} (hj : j < len) (h4 : js + len * s ≤ ms) : js + j * s + s ≤ ms := by
  have h1 : (j + 1) * s ≤ len * s := Nat.mul_le_mul_right _ hj
  rw [Nat.succ_mul] at h1
  omega
/-- an element of many cells is read -/
theorem Plan.loadLV (hst : St B w0 L w) {t : TypeId} {x : Operand} {ix len cc j sz : Nat} {a : Option Addr} {X : List D.α} (dflt : D.α) (hX : LV D L ix a len cc X) (hg : wantedE n e g = true) (hx : ev n e x = .pointer (a.map fun z => ⟨z.block, z.off + j * sz, none⟩)) (hj : j < len) (hsz : D.sz = sz) (ht : aggT P t sz = true)
    (h : ∀ b r, D.side L b (X.getD j dflt) → L[ix]? = some r → Plan P n K l ((i, r.at) :: O) (upd e d (AG (D.E b (X.getD j dflt)))) w) : Plan P n K (⟨i, true, ⟨some d, .load t x, ty, pos, aft, gd⟩, g⟩ :: l) O e w := by
  subst hsz
  obtain ⟨hl, hc, hX⟩ := hX
  obtain ⟨offs, ms, js, os, ps, G, rw, h1, h2, h3, h4, h5⟩ := hX (by omega)
  obtain ⟨b, hb1, hb2⟩ := h2 (by omega)
  subst hb2 hb1
  obtain ⟨bb, s1, s2⟩ := h5 j _ (getD_of (by omega) dflt)
  have hx' : ev n e x = .pointer (some ⟨b, offs + (js + j * D.sz), none⟩) := by rw [hx, ← Nat.add_assoc, ← h3]; rfl
  refine Plan.loadSub hst ix (js + j * D.sz) hg hx' h1 rfl (cells_at hj h4) ht ?_
  have h7 := h bb _ s1 h1
  have e1 : AG [(D.sz, fun q => G (js + j * D.sz + q))] = AG (D.E bb (X.getD j dflt)) := by
    refine AGL_congr ?_
    rw [catL_one]
    have hlen := D.hlen bb (X.getD j dflt)
    apply List.ext_getElem?
    intro q
    by_cases hq : q < D.sz
    · have hq2 : q < (catL (D.E bb (X.getD j dflt))).length := by rw [hlen]; exact hq
      rw [List.getElem?_eq_getElem hq2, List.getElem?_map, List.getElem?_range hq]
      exact congrArg some (s2 q _ (List.getElem?_eq_getElem hq2))
    · rw [List.getElem?_eq_none (by simpa using hq), List.getElem?_eq_none (by omega)]
  rw [e1]
  exact h7
/-- an element of one cell -/
theorem Plan.loadLV1 (hst : St B w0 L w) {t : TypeId} {x : Operand} {ix len cc j : Nat} {a : Option Addr} {X : List D.α} (dflt : D.α) (v : D.β → D.α → Value) (hX : LV D L ix a len cc X) (hg : wantedE n e g = true) (hx : ev n e x = .pointer (a.map fun z => ⟨z.block, z.off + j * 1, none⟩)) (hj : j < len) (hsz : D.sz = 1) (hv : ∀ b y, (catL (D.E b y))[0]? = some (v b y)) (ht : scalarT P t = true)
    (h : ∀ b r, D.side L b (X.getD j dflt) → L[ix]? = some r → Plan P n K l ((i, r.at) :: O) (upd e d (v b (X.getD j dflt))) w) : Plan P n K (⟨i, true, ⟨some d, .load t x, ty, pos, aft, gd⟩, g⟩ :: l) O e w := by
  obtain ⟨hl, hc, hX⟩ := hX
  obtain ⟨offs, ms, js, os, ps, G, rw, h1, h2, h3, h4, h5⟩ := hX (by omega)
  obtain ⟨b, hb1, hb2⟩ := h2 (by omega)
  subst hb2 hb1
  obtain ⟨bb, s1, s2⟩ := h5 j _ (getD_of (by omega) dflt)
  have hx' : ev n e x = .pointer (some ⟨b, offs + (js + j), none⟩) := by rw [hx, ← Nat.add_assoc, ← h3, Nat.mul_one]; rfl
  have h7 := h bb _ s1 h1
  have e1 : G (js + j * D.sz + 0) = _ := s2 0 _ (hv bb _)
  rw [hsz, Nat.mul_one, Nat.add_zero] at e1
  rw [hsz] at h4
  refine Plan.load1 hst ix hg hx' h1 (by omega) ht ?_
  rw [e1]
  exact h7
/-- an element of an own slice is set -/
theorem LO.set {a : Option Addr} {pb : Option Nat} {len cap j : Nat} {F f' : Nat → Value} {X : List D.α} {y : D.α} (hO : LO D L a pb len cap F X) (hj : j < len) (hy : D.cells L f' y) : LO D L a pb len cap (spl F (j * D.sz) D.sz f') (X.set j y) := by
  refine ⟨hO.ho, hO.hc, by rw [List.length_set]; exact hO.hl, fun q x hx => ?_, fun q hq => ?_⟩
  rotate_left
  · by_cases h : j * D.sz ≤ q ∧ q < j * D.sz + D.sz
    · rw [spl_in _ _ _ _ _ h]; exact hy.ck (by omega)
    · rw [spl_out _ _ _ _ _ h]; exact hO.hK q hq
  by_cases hq : q = j
  · subst hq
    rw [List.getElem?_set_self (by rw [hO.hl]; exact hj)] at hx
    obtain rfl := Option.some.inj hx
    refine hy.congr fun k hk => ?_
    rw [spl_in _ _ _ _ _ ⟨by omega, by omega⟩]
    congr 1; omega
  · rw [List.getElem?_set_ne (Ne.symm hq)] at hx
    refine (hO.hF q x hx).congr fun k hk => ?_
    rw [spl_out _ _ _ _ _ ?_]
    rintro ⟨h1, h2⟩
    rcases Nat.lt_or_gt_of_ne hq with h3 | h3
    · have : (q + 1) * D.sz ≤ j * D.sz := Nat.mul_le_mul_right _ h3
      rw [Nat.succ_mul] at this
      omega
    · have : (j + 1) * D.sz ≤ q * D.sz := Nat.mul_le_mul_right _ h3
      rw [Nat.succ_mul] at this
      omega
theorem Plan.storeLO (hst : St B w0 L w) {L0 : List Rg} {t : TypeId} {x y : Operand} {len cap j sz : Nat} {a : Option Addr} {pb : Option Nat} {F : Nat → Value} {X : List D.α} (bb : D.β) (Y : D.α) (k : Nat) (hO : LO D L0 a pb len cap F X) (hs : D.side L0 bb Y) (hg : wantedE n e g = true) (hx : ev n e x = .pointer (a.map fun z => ⟨z.block, z.off + j * sz, none⟩)) (hy : ev n e y = AG (D.E bb Y))
    (hL : L[k]? = some ⟨pb, 0, cap * sz, F, true⟩) (hj : j < len) (hsz : D.sz = sz) (ht : szT P t sz = true) (hw : ∀ r, EffO aft O (L.set k r) O')
    (h : ∀ w' F', LO D L0 a pb len cap F' (X.set j Y) → St B w0 (L.set k ⟨pb, 0, cap * sz, F', true⟩) w' → Plan P n K l O' e w') : Plan P n K (⟨i, false, ⟨none, .store t x y, ty, pos, aft, gd⟩, g⟩ :: l) O e w := by
  subst hsz
  have hOc := hO.hc
  obtain ⟨b, rfl, rfl⟩ := hO.ho.pos (by omega)
  have hlen := D.hlen bb Y
  have hAG : AG (D.E bb Y) = AG [(D.sz, fun q => (catL (D.E bb Y)).getD q undef)] := by
    refine AGL_congr ?_
    rw [catL_one]
    apply List.ext_getElem?
    intro q
    by_cases hq : q < D.sz
    · rw [List.getElem?_map, List.getElem?_range hq, getD_of (by omega) undef]; rfl
    · rw [List.getElem?_eq_none (by omega), List.getElem?_eq_none (by simpa using hq)]
  have hcell : D.cells L0 (fun q => (catL (D.E bb Y)).getD q undef) Y := ⟨bb, hs, fun q v hv => by
    show (catL (D.E bb Y)).getD q undef = v
    rw [List.getD_eq_getElem?_getD, hv]; rfl⟩
  have hbd : j * D.sz + D.sz ≤ cap * D.sz := by
    have : (j + 1) * D.sz ≤ cap * D.sz := Nat.mul_le_mul_right _ (by omega)
    rw [Nat.succ_mul] at this
    exact this
  refine Plan.storeSub (off := 0) (j := j * D.sz) (o := 0 + j * D.sz) hst k hg (by rw [hx]; rfl) (by rw [hy, hAG]) hL rfl hbd (fun q hq => ?_) ht (hw _) fun w' h' => h w' _ (hO.set hj hcell) h'
  exact hcell.one hq
/-- the cells of a list, all of one kind -/
theorem rows_ck {L : List Rg} {X : List D.α} {g : Nat → Value} {m : Nat} (hm : X.length = m) (hg : ∀ j x, X[j]? = some x → D.cells L (fun k => g (j * D.sz + k)) x) {q : Nat} (hq : q < m * D.sz) : D.ck (g q) := by
  have hs : 0 < D.sz := by
    rcases Nat.eq_zero_or_pos D.sz with h0 | h0
    · rw [h0, Nat.mul_zero] at hq; omega
    · exact h0
  have hj : q / D.sz < X.length := by rw [hm]; exact (Nat.div_lt_iff_lt_mul hs).2 hq
  have := (hg _ _ (List.getElem?_eq_getElem hj)).ck (Nat.mod_lt q hs)
  rw [Nat.div_add_mod'] at this
  exact this
theorem app_ck {L0 L : List Rg} {len cap m cap' : Nat} {a : Option Addr} {pb : Option Nat} {F gg : Nat → Value} {X Y : List D.α} {z : Value} {bb : D.β} {zx : D.α} {ip : Bool} (hO : LO D L0 a pb len cap F X) (hz : z.cells.toList = catL (D.E bb zx)) (hYl : Y.length = m) (hgg : ∀ j x, Y[j]? = some x → D.cells L (fun k => gg (j * D.sz + k)) x) (hip : ip = true → cap' ≤ cap) (q : Nat) (hq : q < cap' * D.sz) :
    D.ck (if ip = true ∨ q < (len + m) * D.sz then spl F (len * D.sz) (m * D.sz) gg q else z.cells[q % D.sz]!) := by
  by_cases h1 : ip = true ∨ q < (len + m) * D.sz
  · rw [if_pos h1]
    by_cases h2 : len * D.sz ≤ q ∧ q < len * D.sz + m * D.sz
    · rw [spl_in _ _ _ _ _ h2]; exact rows_ck hYl hgg (by omega)
    · rw [spl_out _ _ _ _ _ h2]
      refine hO.hK q ?_
      rcases h1 with h1 | h1
      · exact Nat.lt_of_lt_of_le hq (Nat.mul_le_mul_right _ (hip h1))
      · rw [Nat.add_mul] at h1
        have : len * D.sz ≤ cap * D.sz := Nat.mul_le_mul_right _ hO.hc
        omega
  · rw [if_neg h1]
    have hs : 0 < D.sz := by
      rcases Nat.eq_zero_or_pos D.sz with h0 | h0
      · rw [h0, Nat.mul_zero] at hq; omega
      · exact h0
    have hzl : z.cells.size = D.sz := by rw [← Array.length_toList, hz, D.hlen]
    have hlt : q % D.sz < z.cells.size := by rw [hzl]; exact Nat.mod_lt _ hs
    refine D.ckE bb zx _ ?_
    rw [← hz, Array.getElem!_eq_getD, Array.getD_eq_getD_getElem?, Array.getElem?_eq_getElem hlt]
    exact Array.getElem_mem_toList hlt
/-- append of a view onto an own slice -/
theorem Plan.appendLO (hst : St B w0 L w) {L0 : List Rg} {t t' el' : TypeId} {x y : Operand} {len cap m cy iy sz by' : Nat} {a ay : Option Addr} {pb : Option Nat} {F : Nat → Value} {X Y : List D.α} {z : Value} (bb : D.β) (zx : D.α) (k : Nat) (hO : LO D L0 a pb len cap F X) (hsz : D.sz = sz) (he : elD P t = some (sz, by', some z)) (hzc : z.cells.toList = catL (D.E bb zx)) (ht' : P.underlying t' = some (.slice el')) (hg : wantedE n e g = true)
    (hx : ev n e x = .slice a len cap) (hy : ev n e y = .slice ay m cy) (hL : L[k]? = some ⟨pb, 0, cap * sz, F, true⟩) (hY : LV D L iy ay m cy Y) (hs0 : ∀ b x, D.side L b x → D.side L0 b x) (hb : (len + m) * by' ≤ 140737488355328) (h63 : len + m < 9223372036854775808)
    (hw : ∀ r, EffO aft O (L.set k r) O')
    (h : ∀ a' pb' cap' (F' : Nat → Value) w', LO D L0 a' pb' (X ++ Y).length cap' F' (X ++ Y) → St B w0 (L.set k ⟨pb', 0, cap' * sz, F', true⟩) w' → Plan P n K l O' (updO e (some d) (.slice a' (X ++ Y).length cap')) w') :
    Plan P n K (⟨i, false, ⟨some d, .call ⟨.builtin .append, #[x, y], #[t, t']⟩, ty, pos, aft, gd⟩, g⟩ :: l) O e w := by
  subst hsz
  have hzs : z.cells.size = D.sz := by rw [← Array.length_toList, hzc, D.hlen]
  obtain ⟨gg, hsrc, hgg⟩ := Src.ofLV hst ht' hY
  obtain ⟨w', a', pb', cap', ip, hr, ho', hcap, hst', hipc⟩ := run_appendS' (P := P) (ty := ty) (zf := fun q => z.cells[q]!) hst (elB_of he) hzs (fun q hq => rfl) hL hO.ho hsrc hO.hc hb h63
  have hl : (X ++ Y).length = len + m := by rw [List.length_append, hO.hl, hY.hl]
  have hLO : LO D L0 a' pb' (len + m) cap' (fun q => if ip = true ∨ q < (len + m) * D.sz then spl F (len * D.sz) (m * D.sz) gg q else z.cells[q % D.sz]!) (X ++ Y) := by
    refine ⟨ho', hcap, hl, fun j x hx => ?_, app_ck hO hzc hY.hl hgg hipc⟩
    have hj : j < len + m := by rw [← hl]; exact (List.getElem?_eq_some_iff.1 hx).1
    have hin : ∀ k, k < D.sz → j * D.sz + k < (len + m) * D.sz := fun k hk => by
      have : (j + 1) * D.sz ≤ (len + m) * D.sz := Nat.mul_le_mul_right _ hj
      rw [Nat.succ_mul] at this
      omega
    by_cases h1 : j < X.length
    · rw [List.getElem?_append_left h1] at hx
      refine (hO.hF j x hx).congr fun k hk => ?_
      rw [if_pos (.inr (hin k hk)), spl_out]
      rintro ⟨h2, _⟩
      have : (j + 1) * D.sz ≤ len * D.sz := Nat.mul_le_mul_right _ (by rw [hO.hl] at h1; exact h1)
      rw [Nat.succ_mul] at this
      omega
    · rw [List.getElem?_append_right (by omega)] at hx
      obtain ⟨b, s1, s2⟩ := hgg _ x hx
      refine EL.cells.congr ⟨b, hs0 b x s1, s2⟩ fun k hk => ?_
      have e1 : j * D.sz = len * D.sz + (j - X.length) * D.sz := by rw [← Nat.add_mul, hO.hl]; congr 1; rw [hO.hl] at h1; omega
      have e2 : (j - X.length) * D.sz + k < m * D.sz := by
        have := hin k hk
        rw [Nat.add_mul] at this
        omega
      rw [if_pos (.inr (hin k hk)), spl_in _ _ _ _ _ ⟨by omega, by omega⟩]
      congr 1; omega
  rw [← hl] at hr hLO
  refine Plan.effS hg (w' := w') (v := .slice a' (X ++ Y).length cap') (run_blt2 fun c => ?_) hst' (hw _) fun w' hw' => h a' pb' cap' _ w' ?_ hw'
  · rw [hx, hy]
    simp only [builtin, Sem.run_bind, hr]
    rfl
  · rw [hl] at hLO ⊢; exact hLO
/-- an element of one cell is set -/
theorem Plan.storeLO1 (hst : St B w0 L w) {L0 : List Rg} {t : TypeId} {x y : Operand} {len cap j : Nat} {a : Option Addr} {pb : Option Nat} {F : Nat → Value} {X : List D.α} (bb : D.β) (Y : D.α) (v : Value) (k : Nat) (hO : LO D L0 a pb len cap F X) (hs : D.side L0 bb Y) (hg : wantedE n e g = true) (hx : ev n e x = .pointer (a.map fun z => ⟨z.block, z.off + j * 1, none⟩)) (hy : ev n e y = v) (hv : catL (D.E bb Y) = [v])
    (hL : L[k]? = some ⟨pb, 0, cap * 1, F, true⟩) (hj : j < len) (hsz : D.sz = 1) (ht : szT P t 1 = true) (hw : O.all (fun p => waitsO ⟨none, .store t x y, ty, pos, aft, gd⟩ p.1) = true)
    (h : ∀ w' F', LO D L0 a pb len cap F' (X.set j Y) → St B w0 (L.set k ⟨pb, 0, cap * 1, F', true⟩) w' → Plan P n K l [] e w') : Plan P n K (⟨i, false, ⟨none, .store t x y, ty, pos, aft, gd⟩, g⟩ :: l) O e w := by
  have hOc := hO.hc
  obtain ⟨b, rfl, rfl⟩ := hO.ho.pos (by omega)
  have hone : v.oneCell' = true := D.one bb Y v (by rw [hv]; exact List.mem_singleton.2 rfl)
  have hcell : D.cells L0 (fun _ => v) Y := ⟨bb, hs, fun q u hu => by
    rw [hv] at hu
    cases q with
    | zero => simpa using hu
    | succ q => simp at hu⟩
  have hset := hO.set hj hcell
  rw [hsz, Nat.mul_one] at hset
  have e1 : spl F j 1 (fun _ => v) = upd F j v := by
    funext q
    rw [upd_at]
    by_cases hq : q = j
    · subst hq; rw [if_pos rfl, spl_in _ _ _ _ _ ⟨by omega, by omega⟩]
    · rw [if_neg hq, spl_out _ _ _ _ _ (by omega)]
  rw [e1] at hset
  refine Plan.store1 (off := 0) (j := j) hst k hg (by rw [hx]; simp) hy hL (by omega) hone ht hw fun w' h' => h w' _ hset h'
theorem writeL_length : ∀ (vs cs : List Value) (o : Nat), (writeL cs o vs).length = cs.length
  | [], _, _ => rfl
  | v :: vs, cs, o => by
    show (writeL (cs.set o v) (o + 1) vs).length = _
    rw [writeL_length vs, List.length_set]
/-- all elements laid, one behind the other -/
def idxd (D : EL) : Nat → List (D.β × D.α) → List (Nat × Value)
  | _, [] => []
  | q, p :: xs => (q, D.val p.1 p.2) :: idxd D (q + 1) xs
theorem fill_rows : ∀ (xs : List (D.β × D.α)) (q : Nat) (A C : List Value), A.length = q * D.sz → C.length = xs.length * D.sz → fillL (fun i => some (i * D.sz, D.sz)) (A ++ C) (idxd D q xs) = some (A ++ xs.flatMap fun p => catL (D.E p.1 p.2))
  | [], q, A, C, _, hC => by
    have : C = [] := List.length_eq_zero_iff.1 (by simpa using hC)
    subst this
    simp [idxd, fillL]
  | p :: xs, q, A, C, hA, hC => by
    have hC1 : C.length = D.sz + xs.length * D.sz := by rw [hC, List.length_cons, Nat.succ_mul, Nat.add_comm]
    have e1 : A ++ C = A ++ C.take D.sz ++ C.drop D.sz := by rw [List.append_assoc, List.take_append_drop]
    have hz : (C.take D.sz).length = D.sz := by rw [List.length_take]; omega
    show fillL _ (A ++ C) ((q, D.val p.1 p.2) :: idxd D (q + 1) xs) = _
    rw [e1, fillStep (A := A) (Z := C.take D.sz) (C := C.drop D.sz) (Y := catL (D.E p.1 p.2)) (by rw [hA, hz]) (by rw [hz]; exact D.hlen _ _) (D.hval _ _)]
    rw [fill_rows xs (q + 1) (A ++ catL (D.E p.1 p.2)) (C.drop D.sz) (by rw [List.length_append, hA, D.hlen, Nat.succ_mul]) (by rw [List.length_drop]; omega)]
    rw [List.flatMap_cons, List.append_assoc]
theorem rows_at : ∀ (xs : List (D.β × D.α)) (j : Nat) (p : D.β × D.α) (k : Nat) (v : Value), xs[j]? = some p → (catL (D.E p.1 p.2))[k]? = some v → (xs.flatMap fun p => catL (D.E p.1 p.2))[j * D.sz + k]? = some v
  | q :: xs, 0, p, k, v, h, hv => by
    obtain rfl : q = p := by simpa using h
    rw [List.flatMap_cons, Nat.zero_mul, Nat.zero_add, List.getElem?_append_left (List.getElem?_eq_some_iff.1 hv).1]
    exact hv
  | q :: xs, j + 1, p, k, v, h, hv => by
    have ih := rows_at xs j p k v (by simpa using h) hv
    rw [List.flatMap_cons, List.getElem?_append_right (by rw [D.hlen, Nat.succ_mul]; omega), D.hlen, Nat.succ_mul, show j * D.sz + D.sz + k - D.sz = j * D.sz + k by omega]
    exact ih
theorem rows_length : ∀ xs : List (D.β × D.α), (xs.flatMap fun p => catL (D.E p.1 p.2)).length = xs.length * D.sz
  | [] => by simp
  | q :: xs => by rw [List.flatMap_cons, List.length_append, D.hlen, rows_length xs, List.length_cons, Nat.succ_mul, Nat.add_comm]
/-- a slice built of elements -/
theorem Plan.buildLO (hst : St B w0 L w) {t el : TypeId} {len sz : Nat} {parts : Array (Nat × Operand)} {z : Value} (xs : List (D.β × D.α)) (hu : P.underlying t = some (.slice el)) (hs : szT P el sz = true) (hz : (P.info? el).bind (·.zero) = some z)
    (hl : 0 < len * sz) (hl2 : len * sz ≤ 16777216) (hg : wantedE n e g = true) (hsz : D.sz = sz) (hXl : xs.length = len)
    (hv : parts.toList.map (fun p => (p.1, ev n e p.2)) = idxd D 0 xs) (hX : ∀ p ∈ xs, D.side L p.1 p.2) (hO : EffO aft O L O')
    (h : ∀ b w' F, B ≤ b → LO D L (some ⟨b, 0, none⟩) (some b) (xs.map (·.2)).length len F (xs.map (·.2)) → St B w0 (⟨some b, 0, len * sz, F, true⟩ :: L) w' → Plan P n K l O' (upd e d (.slice (some ⟨b, 0, none⟩) (xs.map (·.2)).length len)) w') :
    Plan P n K (⟨i, false, ⟨some d, .buildSlice t len parts, ty, pos, aft, gd⟩, g⟩ :: l) O e w := by
  subst hsz
  have hlen := rows_length xs
  rw [hXl] at hlen
  have hcat : catL [(len * D.sz, fun q => (xs.flatMap fun p => catL (D.E p.1 p.2)).getD q undef)] = xs.flatMap fun p => catL (D.E p.1 p.2) := by
    rw [catL_one]
    apply List.ext_getElem?
    intro q
    by_cases hq : q < len * D.sz
    · rw [List.getElem?_map, List.getElem?_range hq, getD_of (by omega) undef]; rfl
    · rw [List.getElem?_eq_none (by simpa using hq), List.getElem?_eq_none (by omega)]
  have hf : fillL (fun i => some (i * D.sz, D.sz)) ((List.range (len * D.sz)).map fun i => z.cells[i % z.cells.size]!) (idxd D 0 xs) = some (catL [(len * D.sz, fun q => (xs.flatMap fun p => catL (D.E p.1 p.2)).getD q undef)]) := by
    rw [hcat]
    have := fill_rows xs 0 [] ((List.range (len * D.sz)).map fun i => z.cells[i % z.cells.size]!) (by simp) (by simp [hXl])
    simpa using this
  refine Plan.buildSlice (ps := [(len * D.sz, fun q => (xs.flatMap fun p => catL (D.E p.1 p.2)).getD q undef)]) hst hu hs hz hl hl2 hg hv hf hO (fun b w' hb hst' => ?_)
  have hm : (xs.map (·.2)).length = len := by rw [List.length_map, hXl]
  have := h b w' (fun q => (xs.flatMap fun (p : D.β × D.α) => catL (D.E p.1 p.2)).getD q undef) hb ⟨.inr ⟨b, rfl, rfl⟩, by rw [hm]; exact Nat.le_refl _, rfl, fun j x hx => by
    rw [List.getElem?_map] at hx
    cases hq : xs[j]? with
    | none => rw [hq] at hx; cases hx
    | some p =>
      rw [hq] at hx
      obtain rfl : p.2 = x := by simpa using hx
      exact ⟨p.1, hX p (List.mem_of_getElem? hq), fun k v hv => by
        show List.getD _ _ _ = v
        rw [List.getD_eq_getElem?_getD, rows_at xs j p k v hq hv]; rfl⟩, fun q hq => by
    have hq2 : q < (xs.flatMap fun (p : D.β × D.α) => catL (D.E p.1 p.2)).length := by rw [hlen]; exact hq
    rw [List.getD_eq_getElem?_getD, List.getElem?_eq_getElem hq2]
    obtain ⟨p, _, hv⟩ := List.mem_flatMap.1 (List.getElem_mem hq2)
    exact D.ckE _ _ _ hv⟩ hst'
  rw [hm] at this
  exact this
/-- a slice made of zeros -/
theorem Plan.makeLO (hst : St B w0 L w) {t : TypeId} {x y : Operand} {len c sz by' : Nat} {k k' : IntKind} {z : Value} (bb : D.β) (zx : D.α) (he : elD P t = some (sz, by', some z)) (hsz : D.sz = sz) (hz : z.cells.toList = catL (D.E bb zx)) (hs : D.side L bb zx) (hg : wantedE n e g = true) (hx : ev n e x = .int k (len : Int)) (hy : ev n e y = .int k' (c : Int)) (hlc : len ≤ c) (hc : c * by' ≤ 281474976710656) (hc2 : c < 9223372036854775808)
    (hO : ∀ r, EffO aft O (r :: L) O')
    (h : ∀ b w' F, B ≤ b → LO D L (some ⟨b, 0, none⟩) (some b) (List.replicate len zx).length c F (List.replicate len zx) → St B w0 (⟨some b, 0, c * sz, F, true⟩ :: L) w' → Plan P n K l O' (updO e (some d) (.slice (some ⟨b, 0, none⟩) (List.replicate len zx).length c)) w') :
    Plan P n K (⟨i, false, ⟨some d, .makeSlice t x y, ty, pos, aft, gd⟩, g⟩ :: l) O e w := by
  subst hsz
  obtain ⟨el, inf, hu, hi, hs1, hby, hzz⟩ := elB_of he
  have hr := run_make (P := P) w t el inf _ hu hi hzz k k' len c (Int.natCast_nonneg _) (by omega) (by rw [hby, ← Int.natCast_mul, Nat.mul_comm]; exact Int.ofNat_le.2 hc) (by omega)
  have hzl : z.cells.size = D.sz := by rw [← Array.length_toList, hz, D.hlen]
  have hm : madeCells z.cells ((c : Int).toNat * inf.size) = (catL [(c * D.sz, fun q => z.cells[q % z.cells.size]!)]).toArray := by
    rw [hs1, Int.toNat_natCast, catL_one]
    unfold madeCells
    apply Array.ext'
    simp
  rw [hm] at hr
  have hLO : LO D L (some ⟨w.heap.size, 0, none⟩) (some w.heap.size) (List.replicate len zx).length c (fun q => z.cells[q % z.cells.size]!) (List.replicate len zx) := by
    refine ⟨.inr ⟨_, rfl, rfl⟩, by rw [List.length_replicate]; exact hlc, rfl, fun j x hx => ?_, fun q hq => ?_⟩
    rotate_left
    · have hs : 0 < D.sz := by
        rcases Nat.eq_zero_or_pos D.sz with h0 | h0
        · rw [h0, Nat.mul_zero] at hq; omega
        · exact h0
      have hlt : q % z.cells.size < z.cells.size := Nat.mod_lt _ (by omega)
      refine D.ckE bb zx _ ?_
      rw [← hz, Array.getElem!_eq_getD, Array.getD_eq_getD_getElem?, Array.getElem?_eq_getElem hlt]
      exact Array.getElem_mem_toList hlt
    obtain rfl : zx = x := by
      rw [List.getElem?_replicate] at hx
      split at hx
      · simpa using hx
      · cases hx
    refine ⟨bb, hs, fun q v hv => ?_⟩
    have hq : q < D.sz := by rw [← D.hlen bb zx]; exact (List.getElem?_eq_some_iff.1 hv).1
    show z.cells[(j * D.sz + q) % z.cells.size]! = v
    rw [hzl, Nat.add_comm, Nat.add_mul_mod_self_right, Nat.mod_eq_of_lt hq]
    rw [← hz] at hv
    rw [Array.getElem?_toList] at hv
    rw [Array.getElem!_eq_getD, Array.getD_eq_getD_getElem?, hv]; rfl
  refine Plan.effS (w' := w.alloc (.cells (catL [(c * D.sz, fun q => z.cells[q % z.cells.size]!)]).toArray el)) (v := .slice (some ⟨w.heap.size, 0, none⟩) (List.replicate len zx).length c) hg (run_v ?_) (hst.alloc [(c * D.sz, fun q => z.cells[q % z.cells.size]!)] el) (hO _) (fun w' hw' => h _ w' _ hst.base hLO hw')
  rw [hx, hy, hr]
  simp
end step
end Go.LW
