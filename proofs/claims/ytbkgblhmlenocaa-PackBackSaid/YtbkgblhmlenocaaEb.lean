import Derived.Test.YtbkgblhmlenocaaEa
import Derived.WideShapes
import Derived.Laws.Externs
import Derived.Lib.SlBytesConst
import Derived.Laws.StructEq
import Derived.Lib.MakeNoZero
import Derived.Laws.IdiomStrings
import Derived.OpenShut
import Derived.ChangeSlices
import Derived.SizedLaws
import Derived.Lib.BytesEntry

/-
  ENGINE X, PART 1 (own work): walks against a relation. A loop is followed by a chain of its rounds (Iter); a view of bytes with the number of its range; an own slice with all that is known of it.
-/
namespace Go.LW
set_option linter.unusedSimpArgs false
set_option linter.unusedVariables false
set_option linter.unusedSectionVars false
open Go Go.RowKit

/-- From s the rounds lead to x. -/
inductive Iter {S X : Type} (step : S → S ⊕ X → Prop) : S → X → Prop
  | done {s : S} {x : X} (h : step s (.inr x)) : Iter step s x
  | more {s s' : S} {x : X} (h : step s (.inl s')) (t : Iter step s' x) : Iter step s x

inductive IterN {S X : Type} (step : S → S ⊕ X → Prop) : Nat → S → X → Prop
  | done {m : Nat} {s : S} {x : X} (h : step s (.inr x)) : IterN step m s x
  | more {m : Nat} {s s' : S} {x : X} (h : step s (.inl s')) (t : IterN step m s' x) : IterN step (m + 1) s x
theorem Iter.n {S X : Type} {step : S → S ⊕ X → Prop} {s : S} {x : X} (h : Iter step s x) : ∃ m, IterN step m s x := by
  induction h with
  | done h => exact ⟨0, .done h⟩
  | more h _ ih => obtain ⟨m, hm⟩ := ih; exact ⟨m + 1, .more h hm⟩

/-- For loops that count: from round i on, up to m. -/
theorem Iter.count {S X : Type} {step : S → S ⊕ X → Prop} {x : X} (f : Nat → S) (m : Nat) (hs : ∀ i, i < m → step (f i) (.inl (f (i + 1)))) (hx : step (f m) (.inr x)) : Iter step (f 0) x := by
  have key : ∀ d i, i + d = m → Iter step (f i) x := by
    intro d
    induction d with
    | zero => intro i hi; obtain rfl : i = m := by omega
              exact .done hx
    | succ d ih => intro i hi; exact .more (hs i (by omega)) (ih (i + 1) (by omega))
  exact key m 0 (by omega)
/-- .. that end behind some round. -/
theorem Iter.stop {S X : Type} {step : S → S ⊕ X → Prop} {x : X} (f : Nat → S) (m : Nat) (hs : ∀ i, i < m → step (f i) (.inl (f (i + 1)))) (hx : step (f m) (.inr x)) (i : Nat) (hi : i ≤ m) : Iter step (f i) x := by
  have key : ∀ d i, i + d = m → Iter step (f i) x := by
    intro d
    induction d with
    | zero => intro i hi; obtain rfl : i = m := by omega
              exact .done hx
    | succ d ih => intro i hi; exact .more (hs i (by omega)) (ih (i + 1) (by omega))
  exact key (m - i) i (by omega)

def iterR {S X : Type} (o : S ⊕ X) (inv : S → Env → World → Prop) (R : Exit → Env → World → Prop) : Exit → Env → World → Prop
  | .normal, e, w => ∃ s, o = .inl s ∧ inv s e w
  | x, e, w => R x e w

section loops
variable {P : Program} {n : Nat} {R : Exit → Env → World → Prop} {e : Env} {w : World}
theorem W.iter {c : Code} {S X : Type} {step : S → S ⊕ X → Prop} {s0 : S} {x : X} (hI : Iter step s0 x) (inv : S → Env → World → Prop) (h0 : inv s0 e w)
    (round : ∀ s o, step s o → (∀ y, o = .inr y → y = x) → ∀ e w, inv s e w → W P n c (iterR o inv R) e w) : W P n (.loop c) R e w := by
  obtain ⟨m, hm⟩ := hI.n
  refine W.loop (fun m e w => ∃ s, IterN step m s x ∧ inv s e w) m ⟨s0, hm, h0⟩ ?_
  rintro m e w ⟨s, hs, hi⟩
  cases hs with
  | done h =>
    refine (round s _ h (fun y hy => (Sum.inr.inj hy).symm) e w hi).mono fun ex e w hr => ?_
    cases ex with
    | normal => obtain ⟨s', hs', _⟩ := hr; cases hs'
    | _ => exact hr
  | more h t =>
    refine (round s _ h (fun y hy => by cases hy) e w hi).mono fun ex e w hr => ?_
    cases ex with
    | normal => obtain ⟨s', hs', hi'⟩ := hr; cases hs'; exact ⟨_, Nat.lt_succ_self _, _, t, hi'⟩
    | _ => exact hr
/-- What follows is proved once, of every state that fits. -/
theorem W.cutN {c : Code} (J : Env → World → Prop) (h : W P n c (thenR J R) e w) (hJ : ∀ e w, J e w → R .normal e w) : W P n c R e w :=
  h.mono fun x e w hx => by cases x <;> first | exact hJ _ _ hx | exact hx
theorem ifT {p A B : Prop} [Decidable p] (h : if p then A else B) (hc : p) : A := by rw [if_pos hc] at h; exact h
theorem ifF {p A B : Prop} [Decidable p] (h : if p then A else B) (hc : ¬ p) : B := by rw [if_neg hc] at h; exact h
theorem iterR_ret {S X : Type} {o : S ⊕ X} {inv : S → Env → World → Prop} (h : R .ret e w) : iterR o inv R .ret e w := h
theorem iterR_exit {S X : Type} {o : S ⊕ X} {inv : S → Env → World → Prop} {id : Nat} (h : R (.exit id) e w) : iterR o inv R (.exit id) e w := h
theorem iterR_norm {S X : Type} {o : S ⊕ X} {inv : S → Env → World → Prop} (h : ∃ s, o = .inl s ∧ inv s e w) : iterR o inv R .normal e w := h
end loops

section step
variable {P : Program} {n : Nat} {K : Pend → Env → World → Prop} {l : List It} {O O' : Pend} {e : Env} {w : World} {i ty : Nat} {d : Tmp} {pos : String} {aft : Array Edge} {gd g : Option (Nat × Bool)}
variable {B : Nat} {w0 : World} {L L' : List Rg}

theorem Plan.cmpP {op : BinOp} {t yt : TypeId} {x y : Operand} {k : IntKind} {a b : Int} {p : Prop} [Decidable p] (hop : isCmp op = true) (hg : wantedE n e g = true) (hx : ev n e x = .int k a) (hy : ev n e y = .int k b) (hp : icmp op a b = decide p)
    (h : Plan P n K l O (upd e d (.bool (decide p))) w) : Plan P n K (⟨i, true, ⟨some d, .binOp op t x y yt, ty, pos, aft, gd⟩, g⟩ :: l) O e w := Plan.cmp hop hg hx hy (by rw [hp]; exact h)
theorem Plan.cmpV {op : BinOp} {t yt : TypeId} {x y : Operand} {k : IntKind} {a b : Int} {p : Prop} [Decidable p] {v : Bool} (hop : isCmp op = true) (hg : wantedE n e g = true) (hx : ev n e x = .int k a) (hy : ev n e y = .int k b) (hp : icmp op a b = decide p) (hv : decide p = v)
    (h : Plan P n K l O (upd e d (.bool v)) w) : Plan P n K (⟨i, true, ⟨some d, .binOp op t x y yt, ty, pos, aft, gd⟩, g⟩ :: l) O e w := Plan.cmp hop hg hx hy (by rw [hp, hv]; exact h)
theorem icmp_eq {a b : Int} : icmp .eql a b = decide (a = b) := by unfold icmp; rw [Bool.eq_iff_iff]; simp
theorem icmp_ne {a b : Int} : icmp .neq a b = decide (a ≠ b) := by unfold icmp; rw [Bool.eq_iff_iff]; simp
theorem icmp_lt {a b : Int} : icmp .lss a b = decide (a < b) := rfl
theorem icmp_le {a b : Int} : icmp .leq a b = decide (a ≤ b) := rfl
theorem icmp_gt {a b : Int} : icmp .gtr a b = decide (b < a) := rfl
theorem icmp_ge {a b : Int} : icmp .geq a b = decide (b ≤ a) := rfl
theorem icmp_eqN {a b : Nat} : icmp .eql a b = decide (a = b) := by rw [icmp_eq]; exact decide_eq_decide.2 (by omega)
theorem icmp_neN {a b : Nat} : icmp .neq a b = decide (a ≠ b) := by rw [icmp_ne]; exact decide_eq_decide.2 (by omega)
theorem icmp_ltN {a b : Nat} : icmp .lss a b = decide (a < b) := decide_eq_decide.2 (by omega)
theorem icmp_leN {a b : Nat} : icmp .leq a b = decide (a ≤ b) := decide_eq_decide.2 (by omega)
theorem icmp_gtN {a b : Nat} : icmp .gtr a b = decide (b < a) := decide_eq_decide.2 (by omega)
theorem icmp_geN {a b : Nat} : icmp .geq a b = decide (b ≤ a) := decide_eq_decide.2 (by omega)
theorem icmp_eqU {s : Nat} {a b : BitVec s} : icmp .eql (a.toNat : Int) (b.toNat : Int) = decide (a = b) := by rw [icmp_eqN]; exact decide_eq_decide.2 ⟨BitVec.eq_of_toNat_eq, fun h => by rw [h]⟩
theorem icmp_neU {s : Nat} {a b : BitVec s} : icmp .neq (a.toNat : Int) (b.toNat : Int) = decide (a ≠ b) := by rw [icmp_neN]; exact decide_eq_decide.2 ⟨fun h h2 => h (by rw [h2]), fun h h2 => h (BitVec.eq_of_toNat_eq h2)⟩

/-- arrays of numbers compared, as a bool that is known -/
theorem Plan.eqArrV {t yt : TypeId} {x y : Operand} {s m : Nat} {kd : IntKind} {F G : Nat → BitVec s} {b : Bool} (ha : arrIB P t m kd = true) (hg : wantedE n e g = true) (hx : ev n e x = AG [(m, fun q => VU kd (F q))]) (hy : ev n e y = AG [(m, fun q => VU kd (G q))]) (hb : eqB m F G = b)
    (h : Plan P n K l O (upd e d (.bool b)) w) : Plan P n K (⟨i, true, ⟨some d, .binOp .eql t x y yt, ty, pos, aft, gd⟩, g⟩ :: l) O e w := Plan.eqArr ha hg hx hy (by rw [hb]; exact h)
theorem Plan.neArrV {t yt : TypeId} {x y : Operand} {s m : Nat} {kd : IntKind} {F G : Nat → BitVec s} {b : Bool} (ha : arrIB P t m kd = true) (hg : wantedE n e g = true) (hx : ev n e x = AG [(m, fun q => VU kd (F q))]) (hy : ev n e y = AG [(m, fun q => VU kd (G q))]) (hb : eqB m F G = b)
    (h : Plan P n K l O (upd e d (.bool (!b))) w) : Plan P n K (⟨i, true, ⟨some d, .binOp .neq t x y yt, ty, pos, aft, gd⟩, g⟩ :: l) O e w := Plan.neArr ha hg hx hy (by rw [hb]; exact h)

/-! addresses within a range -/
theorem Plan.idxArrO {t : TypeId} {x y : Operand} {b o o' j len sz : Nat} {k : IntKind} (ha : arrB P t len sz = true) (hg : wantedE n e g = true) (hx : ev n e x = .pointer (some ⟨b, o, none⟩)) (hy : ev n e y = .int k (j : Int)) (hj : j < len) (ho : o + j * sz = o')
    (h : Plan P n K l O (upd e d (.pointer (some ⟨b, o', none⟩))) w) : Plan P n K (⟨i, true, ⟨some d, .indexAddr t x y, ty, pos, aft, gd⟩, g⟩ :: l) O e w := Plan.idxArr ha hg hx hy hj (by rw [ho]; exact h)
theorem Plan.idxSlO {t : TypeId} {x y : Operand} {b o o' j len cap sz : Nat} {k : IntKind} (ha : slB P t sz = true) (hg : wantedE n e g = true) (hx : ev n e x = .slice (some ⟨b, o, none⟩) len cap) (hy : ev n e y = .int k (j : Int)) (hj : j < len) (ho : o + j * sz = o')
    (h : Plan P n K l O (upd e d (.pointer (some ⟨b, o', none⟩))) w) : Plan P n K (⟨i, true, ⟨some d, .indexAddr t x y, ty, pos, aft, gd⟩, g⟩ :: l) O e w := Plan.idxSl ha hg hx hy hj (by rw [ho]; exact h)
theorem Plan.fieldAddrO {t : TypeId} {x : Operand} {b o o' f : Nat} (off : Nat) (hf : fieldB P t f off = true) (hg : wantedE n e g = true) (hx : ev n e x = .pointer (some ⟨b, o, none⟩)) (ho : o + off = o')
    (h : Plan P n K l O (upd e d (.pointer (some ⟨b, o', none⟩))) w) : Plan P n K (⟨i, true, ⟨some d, .fieldAddr t x f, ty, pos, aft, gd⟩, g⟩ :: l) O e w := Plan.fieldAddr off hf hg hx (by rw [ho]; exact h)
end step

/-! ### views: which range it is -/
/-- The slice (a, len, cc) reads as the bytes X, out of range i (or it is empty). -/
def Bx (L : List Rg) (i : Nat) (a : Option Addr) (len cc : Nat) (X : List Byte) : Prop :=
  X.length = len ∧ len ≤ cc ∧ (0 < len → ∃ (offs ms js os : Nat) (ps : Option Nat) (G : Nat → Byte) (rw : Bool), L[i]? = some ⟨ps, offs, ms, fun q => VU .u8 (G q), rw⟩ ∧ SlV a ps os len ∧ os = offs + js ∧ js + len ≤ ms ∧ ∀ q, q < len → lit X q = G (js + q))
theorem Bx.bs {L : List Rg} {i : Nat} {a : Option Addr} {len cc : Nat} {X : List Byte} (h : Bx L i a len cc X) (hn : 0 < len) : Bs L a len cc (lit X) := by
  obtain ⟨hl, hc, h⟩ := h
  obtain ⟨offs, ms, js, os, ps, G, rw, h1, h2, h3, h4, h5⟩ := h hn
  exact ⟨i, offs, ms, js, os, ps, G, rw, h1, h2, h3, h4, hc, h5⟩
/-- where a range of bytes is known, the empty slice too reads out of one -/
theorem Bx.bs' {L : List Rg} {i : Nat} {a : Option Addr} {len cc : Nat} {X : List Byte} (h : Bx L i a len cc X) (k : Nat) {ps : Option Nat} {offs ms : Nat} {G : Nat → Byte} {rw : Bool} (hL : L[k]? = some ⟨ps, offs, ms, fun q => VU .u8 (G q), rw⟩) : Bs L a len cc (lit X) := by
  by_cases hn : 0 < len
  · exact h.bs hn
  · obtain ⟨hl, hc, h⟩ := h
    obtain rfl : len = 0 := by omega
    exact ⟨k, offs, ms, 0, offs, ps, G, rw, hL, fun h0 => absurd h0 (Nat.lt_irrefl 0), rfl, Nat.zero_le _, hc, fun q hq => absurd hq (Nat.not_lt_zero q)⟩
theorem Bx.hl {L : List Rg} {i : Nat} {a : Option Addr} {len cc : Nat} {X : List Byte} (h : Bx L i a len cc X) : X.length = len := h.1
theorem Bs.bx {L : List Rg} {a : Option Addr} {len cc : Nat} {X : List Byte} (h : Bs L a len cc (lit X)) (hl : X.length = len) : ∃ i, Bx L i a len cc X := by
  obtain ⟨i, offs, ms, js, os, ps, G, rw, h1, h2, h3, h4, h5, h6⟩ := h
  exact ⟨i, hl, h5, fun _ => ⟨offs, ms, js, os, ps, G, rw, h1, h2, h3, h4, h6⟩⟩
theorem Bx.nil {L : List Rg} (i : Nat) {a : Option Addr} {cc : Nat} : Bx L i a 0 cc [] := ⟨rfl, Nat.zero_le _, fun h => absurd h (Nat.lt_irrefl 0)⟩
theorem Bx.le {L : List Rg} {i : Nat} {a : Option Addr} {len cc : Nat} {X : List Byte} (h : Bx L i a len cc X) : len ≤ cc := h.2.1
theorem Bx.app {L : List Rg} {i : Nat} {a : Option Addr} {len cc : Nat} {X : List Byte} (h : Bx L i a len cc X) (C : List Rg) : Bx (C ++ L) (i + C.length) a len cc X := by
  obtain ⟨hl, hc, h⟩ := h
  refine ⟨hl, hc, fun hn => ?_⟩
  obtain ⟨offs, ms, js, os, ps, G, rw, h1, h2⟩ := h hn
  refine ⟨offs, ms, js, os, ps, G, rw, ?_, h2⟩
  rw [List.getElem?_append_right (by omega), Nat.add_sub_cancel]; exact h1
theorem Bx.seg {L : List Rg} {i : Nat} {a : Option Addr} {len cc : Nat} {X : List Byte} (h : Bx L i a len cc X) {lo hi : Nat} (hb : lo ≤ hi ∧ hi ≤ len) : Bx L i (if cc = lo then a else a.map (·.add (lo * 1))) (hi - lo) (cc - lo) (seg X lo hi) := by
  obtain ⟨hl, hc, h⟩ := h
  refine ⟨seg_length (by omega), by omega, fun hn => ?_⟩
  obtain ⟨offs, ms, js, os, ps, G, rw, h1, h2, h3, h4, h6⟩ := h (by omega)
  refine ⟨offs, ms, js + lo, os + lo, ps, G, rw, h1, ?_, by omega, by omega, fun q hq => ?_⟩
  · intro hn
    obtain ⟨b, hb1, hb2⟩ := h2 (by omega)
    refine ⟨b, hb1, ?_⟩
    rw [if_neg (by omega), hb2]
    simp [Addr.add]
  · rw [lit_seg (by omega) (by omega), h6 _ (by omega), Nat.add_assoc]
/-- an own slice: from the head of its block -/
structure Ow (a : Option Addr) (pb : Option Nat) (len cap : Nat) (F : Nat → Byte) (X : List Byte) : Prop where
  ho : OwnSl a pb cap
  hc : len ≤ cap
  hl : X.length = len
  hF : ∀ q, q < len → lit X q = F q
theorem Ow.nil : Ow none none 0 0 (fun _ => 0#8) [] := ⟨OwnSl.nil, Nat.le_refl _, rfl, fun q hq => absurd hq (Nat.not_lt_zero q)⟩
theorem Ow.bx {L : List Rg} {a : Option Addr} {pb : Option Nat} {len cap : Nat} {F : Nat → Byte} {X : List Byte} (h : Ow a pb len cap F X) (k : Nat) {rw : Bool} (hL : L[k]? = some ⟨pb, 0, cap, fun q => VU .u8 (F q), rw⟩) : Bx L k a len cap X :=
  ⟨h.hl, h.hc, fun _ => ⟨0, cap, 0, 0, pb, F, rw, hL, h.ho.sl h.hc, rfl, by have := h.hc; omega, fun q hq => by rw [Nat.zero_add]; exact h.hF q hq⟩⟩
/-- a slice of an array that is a variable -/
theorem Bx.arr {L : List Rg} (k : Nat) {b offs lo n cc m : Nat} {G : Nat → Byte} {rw : Bool} (h : L[k]? = some ⟨some b, offs, m, fun q => VU .u8 (G q), rw⟩) (hn : lo + n ≤ m) (hc : n ≤ cc) : Bx L k (some ⟨b, offs + lo, none⟩) n cc (dl n fun q => G (lo + q)) :=
  ⟨dl_length _ _, hc, fun _ => ⟨offs, m, lo, offs + lo, some b, G, rw, h, fun _ => ⟨b, rfl, rfl⟩, rfl, hn, fun q hq => lit_dl _ hq⟩⟩
theorem Bx.arr0 {L : List Rg} (k : Nat) {b offs n cc m : Nat} {G : Nat → Byte} {rw : Bool} (h : L[k]? = some ⟨some b, offs, m, fun q => VU .u8 (G q), rw⟩) (hn : n ≤ m) (hc : n ≤ cc) : Bx L k (some ⟨b, offs, none⟩) n cc (dl n G) :=
  ⟨dl_length _ _, hc, fun _ => ⟨offs, m, 0, offs, some b, G, rw, h, fun _ => ⟨b, rfl, rfl⟩, rfl, by omega, fun q hq => by rw [Nat.zero_add]; exact lit_dl _ hq⟩⟩
theorem Ow.arr {b m : Nat} {G : Nat → Byte} : Ow (some ⟨b, 0, none⟩) (some b) m m G (dl m G) := ⟨.inr ⟨b, rfl, rfl⟩, Nat.le_refl _, dl_length _ _, fun q hq => lit_dl _ hq⟩

section step
variable {P : Program} {n : Nat} {K : Pend → Env → World → Prop} {l : List It} {O O' : Pend} {e : Env} {w : World} {i ty : Nat} {d : Tmp} {pos : String} {aft : Array Edge} {gd g : Option (Nat × Bool)}
variable {B : Nat} {w0 : World} {L L' : List Rg}

/-- the address of an element of a view -/
theorem Plan.idxV {t : TypeId} {x y : Operand} {k : IntKind} {ix len cc j : Nat} {a : Option Addr} {X : List Byte} (hX : Bx L ix a len cc X) (ha : slB P t 1 = true) (hg : wantedE n e g = true) (hx : ev n e x = .slice a len cc) (hy : ev n e y = .int k (j : Int)) (hj : j < len)
    (h : Plan P n K l O (upd e d (.pointer (a.map fun z => ⟨z.block, z.off + j, none⟩))) w) : Plan P n K (⟨i, true, ⟨some d, .indexAddr t x y, ty, pos, aft, gd⟩, g⟩ :: l) O e w := by
  obtain ⟨hl, hc, hX⟩ := hX
  obtain ⟨offs, ms, js, os, ps, G, rw, h1, h2, h3⟩ := hX (by omega)
  obtain ⟨b, hb1, hb2⟩ := h2 (by omega)
  subst hb2
  exact Plan.idxSl1 ha hg hx hy hj h
theorem Plan.loadV (hst : St B w0 L w) {t : TypeId} {x : Operand} {ix len cc j : Nat} {a : Option Addr} {X : List Byte} (hX : Bx L ix a len cc X) (hg : wantedE n e g = true) (hx : ev n e x = .pointer (a.map fun z => ⟨z.block, z.off + j, none⟩)) (hj : j < len) (ht : scalarT P t = true)
    (h : ∀ r, L[ix]? = some r → Plan P n K l ((i, r.at) :: O) (upd e d (VU .u8 (lit X j))) w) : Plan P n K (⟨i, true, ⟨some d, .load t x, ty, pos, aft, gd⟩, g⟩ :: l) O e w := by
  obtain ⟨hl, hc, hX⟩ := hX
  obtain ⟨offs, ms, js, os, ps, G, rw, h1, h2, h3, h4, h6⟩ := hX (by omega)
  obtain ⟨b, hb1, hb2⟩ := h2 (by omega)
  subst hb2 hb1
  have hx' : ev n e x = .pointer (some ⟨b, offs + (js + j), none⟩) := by rw [hx, ← Nat.add_assoc, ← h3]; rfl
  refine Plan.load1 hst ix hg hx' h1 (by omega) ht ?_
  have := h _ h1
  rw [h6 j hj] at this
  exact this
/-- an element of an own slice is set -/
theorem Plan.storeO (hst : St B w0 L w) {t : TypeId} {x y : Operand} {len cap j : Nat} {a : Option Addr} {pb : Option Nat} {F : Nat → Byte} {X : List Byte} {Y : Byte} (k : Nat) (hO : Ow a pb len cap F X) (hg : wantedE n e g = true) (hx : ev n e x = .pointer (a.map fun z => ⟨z.block, z.off + j, none⟩)) (hy : ev n e y = VU .u8 Y)
    (hL : L[k]? = some ⟨pb, 0, cap, fun q => VU .u8 (F q), true⟩) (hj : j < len) (ht : szT P t 1 = true) (hw : O.all (fun p => waitsO ⟨none, .store t x y, ty, pos, aft, gd⟩ p.1) = true)
    (h : ∀ w' F', Ow a pb len cap F' (X.set j Y) → St B w0 (L.set k ⟨pb, 0, cap, fun q => VU .u8 (F' q), true⟩) w' → Plan P n K l [] e w') : Plan P n K (⟨i, false, ⟨none, .store t x y, ty, pos, aft, gd⟩, g⟩ :: l) O e w := by
  have hOc := hO.hc
  obtain ⟨b, rfl, rfl⟩ := hO.ho.pos (by omega)
  refine Plan.storeU (off := 0) hst k hg (by rw [hx]; rfl) hy hL (by omega) ht hw fun w' h' => h w' _ ⟨hO.ho, hOc, by rw [List.length_set]; exact hO.hl, fun q hq => ?_⟩ h'
  have h1 := hO.hF q hq
  have h2 := hO.hl
  unfold lit at h1 ⊢
  rw [upd_at]
  by_cases hqj : q = j
  · subst hqj; rw [if_pos rfl, List.getD_eq_getElem?_getD, List.getElem?_set_self (by omega)]; rfl
  · rw [if_neg hqj, ← h1, List.getD_eq_getElem?_getD, List.getD_eq_getElem?_getD, List.getElem?_set_ne (Ne.symm hqj)]
/-- append of a view onto an own slice -/
theorem Plan.appendO (hst : St B w0 L w) {t t' sz : TypeId} {x y : Operand} {len cap m cy iy : Nat} {a ay : Option Addr} {pb : Option Nat} {F : Nat → Byte} {X Y : List Byte} (k : Nat) (hO : Ow a pb len cap F X) (he : elD P t = some (1, 1, some (VU .u8 0#8))) (ht' : slB P t' sz = true) (hg : wantedE n e g = true)
    (hx : ev n e x = .slice a len cap) (hy : ev n e y = .slice ay m cy) (hL : L[k]? = some ⟨pb, 0, cap, fun q => VU .u8 (F q), true⟩) (hY : Bx L iy ay m cy Y) (hb : len + m ≤ 140737488355328)
    (hw : ∀ r, EffO aft O (L.set k r) O')
    (h : ∀ a' pb' cap' (F' : Nat → Byte) w', Ow a' pb' (X ++ Y).length cap' F' (X ++ Y) → St B w0 (L.set k ⟨pb', 0, cap', fun q => VU .u8 (F' q), true⟩) w' → Plan P n K l O' (updO e (some d) (.slice a' (X ++ Y).length cap')) w') :
    Plan P n K (⟨i, false, ⟨some d, .call ⟨.builtin .append, #[x, y], #[t, t']⟩, ty, pos, aft, gd⟩, g⟩ :: l) O e w :=
  Plan.appendL hst k he ht' hg hx hy hL hO.ho hO.hc hO.hl hO.hF (hY.bs' k hL) hY.hl hb hw fun a' pb' cap' F' w' h1 h2 h3 h4 => h a' pb' cap' F' w' ⟨h1, h2, rfl, h3⟩ h4
theorem St.nilR (h : St B w0 L w) : St B w0 (⟨none, 0, 0, fun q => VU .u8 ((fun _ => 0#8 : Nat → Byte) q), true⟩ :: L) w := h.ownNil
end step
end Go.LW

/-
  ENGINE X, PART 2 (own work): further steps: bits of ints, bools compared, slices of views, slices made, arrays out of views, views of views, calls of closures.
-/
namespace Go.LW
set_option linter.unusedSimpArgs false
set_option linter.unusedVariables false
set_option linter.unusedSectionVars false
open Go Go.RowKit

section step
variable {P : Program} {n : Nat} {K : Pend → Env → World → Prop} {l : List It} {O O' : Pend} {e : Env} {w : World} {i ty : Nat} {d : Tmp} {pos : String} {aft : Array Edge} {gd g : Option (Nat × Bool)}
variable {B : Nat} {w0 : World} {L L' : List Rg}

/-! bits of ints that are not below 0 -/
def bvopN (op : BinOp) (a b : Nat) : Nat := match op with | .and => a &&& b | .or => a ||| b | _ => a ^^^ b
theorem Plan.bitsN {op : BinOp} {t yt : TypeId} {x y : Operand} {a b : Nat} (hg : wantedE n e g = true) (hx : ev n e x = VN a) (hy : ev n e y = VN b) (ha : a < 9223372036854775808) (hb : b < 9223372036854775808) (hop : op = .and ∨ op = .or ∨ op = .xor)
    (h : Plan P n K l O (upd e d (VN (bvopN op a b))) w) : Plan P n K (⟨i, true, ⟨some d, .binOp op t x y yt, ty, pos, aft, gd⟩, g⟩ :: l) O e w :=
  Plan.val hg (fun w => run_bin hx hy (by
    have key : ∀ Z : BitVec 64, Z.toNat < 9223372036854775808 → (Sem.pure (Value.int .i64 (IntKind.i64.wrap Z.toNat))).run P w = .ok (VN Z.toNat) w := fun Z hZ => by
      rw [wrap_i64_in _ (by omega)]; rfl
    have e1 : (BitVec.ofNat 64 a).toNat = a := by simp only [BitVec.toNat_ofNat]; omega
    have e2 : (BitVec.ofNat 64 b).toNat = b := by simp only [BitVec.toNat_ofNat]; omega
    have h63 : ∀ z : Nat, z < 9223372036854775808 ↔ z < 2 ^ 63 := fun z => by omega
    rcases hop with rfl | rfl | rfl <;> simp only [binOp, ne_eq, not_true_eq_false, if_false, Op.intBits, BitVec.ofInt_natCast]
    · have e3 : (BitVec.ofNat 64 a &&& BitVec.ofNat 64 b).toNat = a &&& b := by rw [BitVec.toNat_and, e1, e2]
      refine (key (BitVec.ofNat 64 a &&& BitVec.ofNat 64 b) ?_).trans ?_
      · rw [e3]; rw [h63] at *; exact Nat.and_lt_two_pow _ hb
      · rw [e3]; rfl
    · have e3 : (BitVec.ofNat 64 a ||| BitVec.ofNat 64 b).toNat = a ||| b := by rw [BitVec.toNat_or, e1, e2]
      refine (key (BitVec.ofNat 64 a ||| BitVec.ofNat 64 b) ?_).trans ?_
      · rw [e3]; rw [h63] at *; exact Nat.or_lt_two_pow ha hb
      · rw [e3]; rfl
    · have e3 : (BitVec.ofNat 64 a ^^^ BitVec.ofNat 64 b).toNat = a ^^^ b := by rw [BitVec.toNat_xor, e1, e2]
      refine (key (BitVec.ofNat 64 a ^^^ BitVec.ofNat 64 b) ?_).trans ?_
      · rw [e3]; rw [h63] at *; exact Nat.xor_lt_two_pow ha hb
      · rw [e3]; rfl)) h
theorem Plan.andN {t yt : TypeId} {x y : Operand} {a b : Nat} (hg : wantedE n e g = true) (hx : ev n e x = VN a) (hy : ev n e y = VN b) (hb : a < 9223372036854775808 ∧ b < 9223372036854775808)
    (h : Plan P n K l O (upd e d (VN (a &&& b))) w) : Plan P n K (⟨i, true, ⟨some d, .binOp .and t x y yt, ty, pos, aft, gd⟩, g⟩ :: l) O e w := Plan.bitsN hg hx hy hb.1 hb.2 (by simp) h
theorem Plan.orN {t yt : TypeId} {x y : Operand} {a b : Nat} (hg : wantedE n e g = true) (hx : ev n e x = VN a) (hy : ev n e y = VN b) (hb : a < 9223372036854775808 ∧ b < 9223372036854775808)
    (h : Plan P n K l O (upd e d (VN (a ||| b))) w) : Plan P n K (⟨i, true, ⟨some d, .binOp .or t x y yt, ty, pos, aft, gd⟩, g⟩ :: l) O e w := Plan.bitsN hg hx hy hb.1 hb.2 (by simp) h
theorem Plan.xorN {t yt : TypeId} {x y : Operand} {a b : Nat} (hg : wantedE n e g = true) (hx : ev n e x = VN a) (hy : ev n e y = VN b) (hb : a < 9223372036854775808 ∧ b < 9223372036854775808)
    (h : Plan P n K l O (upd e d (VN (a ^^^ b))) w) : Plan P n K (⟨i, true, ⟨some d, .binOp .xor t x y yt, ty, pos, aft, gd⟩, g⟩ :: l) O e w := Plan.bitsN hg hx hy hb.1 hb.2 (by simp) h

/-! bools compared -/
def boolB (P : Program) (t : Nat) : Bool := match P.underlying t with | some .bool => true | _ => false
theorem run_equalBool {t : TypeId} (ht : boolB P t = true) (a b : Bool) (w : World) : (Op.equal t (.bool a) (.bool b)).run P w = .ok (a == b) w := by
  have hu : P.underlying t = some .bool := by
    unfold boolB at ht
    split at ht
    · assumption
    · cases ht
  unfold Op.equal
  rw [show Op.maxDepth = 9999 + 1 by rfl]
  unfold Op.equalIn
  simp [run_underlying hu]
theorem Plan.eqBoolV {t yt : TypeId} {x y : Operand} {a b v : Bool} (ht : boolB P t = true) (hg : wantedE n e g = true) (hx : ev n e x = .bool a) (hy : ev n e y = .bool b) (hv : (a == b) = v)
    (h : Plan P n K l O (upd e d (.bool v)) w) : Plan P n K (⟨i, true, ⟨some d, .binOp .eql t x y yt, ty, pos, aft, gd⟩, g⟩ :: l) O e w := Plan.val hg (fun w => by
    refine run_v ?_
    rw [hx, hy, ← hv]
    have h0 := run_equalBool (P := P) ht a b w
    simp [eqGuard, binOp, h0]) h
theorem Plan.neBoolV {t yt : TypeId} {x y : Operand} {a b v : Bool} (ht : boolB P t = true) (hg : wantedE n e g = true) (hx : ev n e x = .bool a) (hy : ev n e y = .bool b) (hv : (a != b) = v)
    (h : Plan P n K l O (upd e d (.bool v)) w) : Plan P n K (⟨i, true, ⟨some d, .binOp .neq t x y yt, ty, pos, aft, gd⟩, g⟩ :: l) O e w := Plan.val hg (fun w => by
    refine run_v ?_
    rw [hx, hy, ← hv]
    have h0 := run_equalBool (P := P) ht a b w
    simp [eqGuard, binOp, h0, bne]) h
theorem Plan.eqStrV {t yt : TypeId} {x y : Operand} {X Y : List Byte} {v : Bool} (hg : wantedE n e g = true) (hx : ev n e x = .string (strL X)) (hy : ev n e y = .string (strL Y)) (hv : decide (X = Y) = v)
    (h : Plan P n K l O (upd e d (.bool v)) w) : Plan P n K (⟨i, true, ⟨some d, .binOp .eql t x y yt, ty, pos, aft, gd⟩, g⟩ :: l) O e w := Plan.eqStr hg hx hy (by rw [hv]; exact h)
theorem Plan.neStrV {t yt : TypeId} {x y : Operand} {X Y : List Byte} {v : Bool} (hg : wantedE n e g = true) (hx : ev n e x = .string (strL X)) (hy : ev n e y = .string (strL Y)) (hv : decide (X = Y) = v)
    (h : Plan P n K l O (upd e d (.bool (!v))) w) : Plan P n K (⟨i, true, ⟨some d, .binOp .neq t x y yt, ty, pos, aft, gd⟩, g⟩ :: l) O e w := Plan.val hg (fun w => run_stringOp hx hy (by
      unfold Op.stringOp
      show (pure (Value.bool ((strL X).toList != (strL Y).toList)) : Sem Value).run P w = _
      have h1 := toList_inj (A := strL X) (B := strL Y)
      have h2 : ((strL X).toList != (strL Y).toList) = !v := by
        rw [bne, h1, ← hv]; congr 1; exact decide_eq_decide.2 strL_inj
      rw [h2]; rfl) (.inr rfl)) h

/-! slices of views: a new view -/
theorem Plan.slV {t : TypeId} {x : Operand} {ix len cap lo hi : Nat} {a : Option Addr} {X : List Byte} {low high : Option Operand} (hX : Bx L ix a len cap X) (ha : slB P t 1 = true) (hg : wantedE n e g = true) (hx : ev n e x = .slice a len cap)
    (hlo : match low with | some y => ∃ k, ev n e y = .int k (lo : Int) | none => lo = 0) (hhi : match high with | some y => ∃ k, ev n e y = .int k (hi : Int) | none => hi = len) (hb : lo ≤ hi ∧ hi ≤ len)
    (h : ∀ a' c', Bx L ix a' (seg X lo hi).length c' (seg X lo hi) → Plan P n K l O (upd e d (.slice a' (seg X lo hi).length c')) w) : Plan P n K (⟨i, true, ⟨some d, .slice t x low high none, ty, pos, aft, gd⟩, g⟩ :: l) O e w := by
  have h1 := hX.seg hb
  have h2 : (seg X lo hi).length = hi - lo := h1.hl
  refine Plan.slSl ha hg hx hlo hhi (by have := hX.le; omega) ?_
  rw [← h2] at h1 ⊢
  exact h _ _ h1
/-- a slice of an array that is a variable, elements of one cell -/
theorem Plan.slArrO {t : TypeId} {x : Operand} {b o len lo hi m c o' : Nat} {low high : Option Operand} (ha : arrB P t len 1 = true) (hg : wantedE n e g = true) (hx : ev n e x = .pointer (some ⟨b, o, none⟩))
    (hlo : match low with | some y => ∃ k, ev n e y = .int k (lo : Int) | none => lo = 0) (hhi : match high with | some y => ∃ k, ev n e y = .int k (hi : Int) | none => hi = len) (hb : lo ≤ hi ∧ hi ≤ len ∧ lo < len) (hm : hi - lo = m) (hc : len - lo = c) (ho : o + lo = o')
    (h : Plan P n K l O (upd e d (.slice (some ⟨b, o', none⟩) m c)) w) : Plan P n K (⟨i, true, ⟨some d, .slice t x low high none, ty, pos, aft, gd⟩, g⟩ :: l) O e w :=
  Plan.slArr ha hg hx hlo hhi hb (by rw [Nat.mul_one, hm, hc, ho]; exact h)
/-- string(b) of a view -/
theorem Plan.toStrV (hst : St B w0 L w) {src dst el : TypeId} {x : Operand} {a : Option Addr} {ix len c : Nat} {X : List Byte} (hX : Bx L ix a len c X) (hs : P.underlying src = some (.slice el)) (he : P.underlying el = some (.int .u8)) (hd : P.underlying dst = some .string) (hg : wantedE n e g = true)
    (hx : ev n e x = .slice a len c) (h : ∀ r : Rg, (r.n = 0 ∨ L[ix]? = some r) → Plan P n K l ((i, r.at) :: O) (upd e d (.string (strL X))) w) :
    Plan P n K (⟨i, true, ⟨some d, .convert src dst x, ty, pos, aft, gd⟩, g⟩ :: l) O e w := by
  obtain ⟨hl, hc, h0⟩ := hX
  by_cases hn : 0 < len
  · obtain ⟨offs, ms, js, os, ps, G, rw, h1, h2, h3, h4, h6⟩ := h0 hn
    have hr := h _ (.inr h1)
    refine Plan.held _ hg (hst.mem h1) (fun w hw => run_v ?_) hr
    rw [hx]
    obtain ⟨b, hp, ha⟩ := h2 hn
    subst ha
    refine run_convert_bytes_arg w src el hs he b os len c (X.map fun b => (b.toNat : Int)) (by simpa using hl) (fun q hq => ?_) dst hd
    obtain ⟨b', hp', hc'⟩ := hw (js + q) (show js + q < ms by omega)
    simp only at hp'
    rw [hp] at hp'
    obtain rfl := Option.some.inj hp'
    rw [h3, Nat.add_assoc]
    rw [hc']
    show some (VU .u8 (G (js + q))) = _
    rw [← h6 q hq]
    congr 1
    unfold lit
    simp only [List.getD_eq_getElem?_getD, List.getElem?_map]
    rw [List.getElem?_eq_getElem (by omega)]
    simp
  · obtain rfl : len = 0 := by omega
    obtain rfl := List.length_eq_zero_iff.1 hl
    have hr := h ⟨none, 0, 0, fun _ => undef, true⟩ (.inl rfl)
    refine Plan.held _ hg (fun j hj => absurd hj (Nat.not_lt_zero j)) (fun w hw => run_v ?_) hr
    rw [hx, run_convert_bytes_string w src dst el _ 0 c hs he hd]
    cases a <;> simp [Conv.bytesToString, loadCells]
    all_goals rfl

/-! slices made -/
theorem Plan.makeO (hst : St B w0 L w) {t : TypeId} {x y : Operand} {len c : Nat} {k k' : IntKind} (he : elD P t = some (1, 1, some (VU .u8 0#8))) (hg : wantedE n e g = true) (hx : ev n e x = .int k (len : Int)) (hy : ev n e y = .int k' (c : Int)) (hlc : len ≤ c) (hc : c ≤ 281474976710656)
    (hO : ∀ r, EffO aft O (r :: L) O')
    (h : ∀ b w', B ≤ b → Ow (some ⟨b, 0, none⟩) (some b) (List.replicate len 0#8).length c (fun _ => 0#8) (List.replicate len 0#8) → St B w0 (⟨some b, 0, c, fun q => VU .u8 ((fun _ => 0#8 : Nat → Byte) q), true⟩ :: L) w' → Plan P n K l O' (updO e (some d) (.slice (some ⟨b, 0, none⟩) (List.replicate len 0#8).length c)) w') :
    Plan P n K (⟨i, false, ⟨some d, .makeSlice t x y, ty, pos, aft, gd⟩, g⟩ :: l) O e w := by
  obtain ⟨el, inf, hu, hi, hs, hby, hz⟩ := elB_of he
  have hr := run_make (P := P) w t el inf _ hu hi hz k k' len c (Int.natCast_nonneg _) (by omega) (by rw [hby]; omega) (by omega)
  have hm : madeCells (VU .u8 0#8 : Value).cells ((c : Int).toNat * inf.size) = (catL [(c, fun _ => VU .u8 0#8)]).toArray := by
    rw [hs, Int.toNat_natCast, Nat.mul_one, catL_one]
    show madeCells #[VU .u8 0#8] c = _
    unfold madeCells
    apply Array.ext'
    apply List.ext_getElem?
    intro q
    by_cases hq : q < c
    · simp [hq, Nat.mod_one]
    · simp [hq]
  rw [hm] at hr
  have hO2 : Ow (some ⟨w.heap.size, 0, none⟩) (some w.heap.size) (List.replicate len 0#8).length c (fun _ => 0#8) (List.replicate len 0#8) := by
    refine ⟨.inr ⟨_, rfl, rfl⟩, by rw [List.length_replicate]; exact hlc, rfl, fun q hq => ?_⟩
    unfold lit
    rw [List.getD_eq_getElem?_getD, List.getElem?_replicate]
    split <;> rfl
  refine Plan.effS (w' := w.alloc (.cells (catL [(c, fun _ => VU .u8 0#8)]).toArray el)) (v := .slice (some ⟨w.heap.size, 0, none⟩) (List.replicate len 0#8).length c) hg (run_v ?_) (hst.alloc [(c, fun _ => VU .u8 0#8)] el) (hO _) (fun w' hw' => h _ w' hst.base hO2 hw')
  rw [hx, hy, hr]
  simp

/-! an array out of a view -/
theorem Plan.sl2arrV {t : TypeId} {x : Operand} {ix m len cap : Nat} {a : Option Addr} {X : List Byte} {el : TypeId} (hX : Bx L ix a len cap X) (hu : P.underlying t = some (.array m el)) (hg : wantedE n e g = true) (hx : ev n e x = .slice a len cap) (hm : 0 < m ∧ m ≤ len)
    (h : Plan P n K l O (upd e d (.pointer a)) w) : Plan P n K (⟨i, true, ⟨some d, .sliceToArrayPointer t x, ty, pos, aft, gd⟩, g⟩ :: l) O e w := by
  obtain ⟨hl, hc, h0⟩ := hX
  obtain ⟨offs, ms, js, os, ps, G, rw, h1, h2, h3, h4, h6⟩ := h0 (by omega)
  obtain ⟨b, hp, ha⟩ := h2 (by omega)
  subst ha
  exact Plan.sl2arr (o := os) (b := b) hu hg hx (fun _ => ⟨b, rfl, rfl⟩) hm h
theorem Plan.loadAV (hst : St B w0 L w) {t : TypeId} {x : Operand} {ix m len cc : Nat} {a : Option Addr} {X : List Byte} (hX : Bx L ix a len cc X) (hg : wantedE n e g = true) (hx : ev n e x = .pointer a) (hm : 0 < m ∧ m ≤ len) (ht : aggT P t m = true)
    (h : ∀ r, L[ix]? = some r → Plan P n K l ((i, r.at) :: O) (upd e d (AG [(m, fun q => VU .u8 (lit X q))])) w) : Plan P n K (⟨i, true, ⟨some d, .load t x, ty, pos, aft, gd⟩, g⟩ :: l) O e w := by
  obtain ⟨hl, hc, h0⟩ := hX
  obtain ⟨offs, ms, js, os, ps, G, rw, h1, h2, h3, h4, h6⟩ := h0 (by omega)
  obtain ⟨b, hp, ha⟩ := h2 (by omega)
  subst ha hp
  refine Plan.loadSub hst ix js hg hx h1 h3 (by omega) ht ?_
  have h7 := h _ h1
  have e1 : AG [(m, fun q => VU .u8 (G (js + q)))] = AG [(m, fun q => VU .u8 (lit X q))] := by
    unfold AG
    rw [catL_one, catL_one]
    congr 2
    exact List.map_congr_left fun q hq => by rw [h6 q (by have := List.mem_range.1 hq; omega)]
  rw [e1]
  exact h7

/-! a literal without parts: the zero -/
def rowB (P : Program) (t : Nat) : Bool := match P.underlying t with
  | some (.struct fs) => fs.toList.all fun f => match P.info? f.type with | some i => decide (i.size < 1000000) | none => false
  | some (.array _ el) => (match P.info? el with | some i => i.size < 1000000 | none => false)
  | _ => false
theorem Plan.buildZ {t : TypeId} {zps : List (Nat × (Nat → Value))} (ht : rowB P t = true) (hz : zeroIs P t zps) (hg : wantedE n e g = true)
    (h : Plan P n K l O (upd e d (AG zps)) w) : Plan P n K (⟨i, true, ⟨some d, .build t #[], ty, pos, aft, gd⟩, g⟩ :: l) O e w := by
  cases hu : P.underlying t with
  | none => unfold rowB at ht; rw [hu] at ht; cases ht
  | some u =>
    unfold rowB at ht
    rw [hu] at ht
    cases u with
    | array len el =>
      cases hi : P.info? el with
      | none => simp only [hi] at ht; cases ht
      | some inf => exact Plan.buildArr (len := len) (sz := inf.size) (zps := zps) (ps := zps) (vs := []) (by unfold arrB; rw [hu]; simp [szT, hi]) hz hg rfl rfl h
    | struct fs =>
      refine Plan.buildStr (zps := zps) (ps := zps) (vs := []) (pl := fs.toList.map (fun f => (f.offset, match P.info? f.type with | some i => i.size | none => 1000000007))) (by unfold placesB; rw [hu]; exact beq_self_eq_true _) ?_ hz hg rfl rfl h
      simp only [List.all_eq_true] at ht
      simp only [List.all_eq_true, List.mem_map]
      rintro q ⟨f, hf, rfl⟩
      have h1 := ht f hf
      cases hi : P.info? f.type with
      | none => rw [hi] at h1; cases h1
      | some inf => rw [hi] at h1; simpa using h1
    | _ => cases ht

/-! a closure called: what it has captured is handed in behind the arguments -/
theorem Plan.makeF {f : FuncId} {captured : Array Operand} {cs : List Value} (hg : wantedE n e g = true) (hc : captured.toList.map (ev n e) = cs) (h : Plan P n K l O (upd e d (.func (.func f) #[] cs.toArray)) w) :
    Plan P n K (⟨i, true, ⟨some d, .makeFunc (.func f) #[] captured, ty, pos, aft, gd⟩, g⟩ :: l) O e w :=
  Plan.val hg (fun w => run_v (by
    have : captured.map (ev n e) = cs.toArray := by rw [← hc, ← Array.toList_map]
    rw [this]; simp [Instr.makeFunc])) h
theorem run_callF {x : Operand} {f : FuncId} {ρ : Operand → Value} {args : Array Operand} {at' : Array TypeId} {dst : Option Tmp} {cs : Array Value} (hok : callB P f = true) (hx : ρ x = .func (.func f) #[] cs) (w : World) :
    (execOp ρ ⟨dst, .call ⟨.value x, args, at'⟩, ty, pos, aft, gd⟩).run P w = .ok (.enter f (args.map ρ ++ cs)) w := by
  unfold callB at hok
  cases hf : P.funcs[f]? with
  | none => rw [hf] at hok; cases hok
  | some fn =>
    rw [hf] at hok
    simp only [Bool.and_eq_true, Bool.not_eq_true'] at hok
    simp only [execOp, resolve, hx, Deferred.ofValue, Sem.run_bind, Sem.run_pure, Result.andThen, invoke, callFunc, run_program, hf, hok.1, hok.2, Bool.false_eq_true, if_false]
    simp
theorem Plan.callF {x : Operand} {f : FuncId} {args : Array Operand} {at' : Array TypeId} {dst : Option Tmp} {vs cs : List Value} {R : Ending → World → Prop} (hx : ev n e x = .func (.func f) #[] cs.toArray) (hg : wantedE n e g = true) (hok : callB P f = true) (hargs : args.toList.map (ev n e) = vs)
    (hc : Calls P f (vs ++ cs).toArray w R)
    (hR : ∀ x' w', R x' w' → ∃ v, x' = .returned v ∧ (((∀ p ∈ O, p.2 w → p.2 w') ∧ Plan P n K l O (updO e dst v) w') ∨ (O.all (fun p => waitsO ⟨dst, .call ⟨.value x, args, at'⟩, ty, pos, aft, gd⟩ p.1) = true ∧ Plan P n K l [] (updO e dst v) w'))) :
    Plan P n K (⟨i, false, ⟨dst, .call ⟨.value x, args, at'⟩, ty, pos, aft, gd⟩, g⟩ :: l) O e w := by
  refine Plan.eff hg ?_
  rw [run_callF (P := P) hok hx w]
  show Calls P f (args.map (ev n e) ++ cs.toArray) w _
  have : args.map (ev n e) ++ cs.toArray = (vs ++ cs).toArray := by
    rw [← hargs, List.append_toArray, ← Array.toList_map]
  rw [this]
  exact hc.mono hR
end step
end Go.LW

/-
  ENGINE X, PART 3 (own work): parts of values; strings; slices of slices of bytes.
-/
namespace Go.LW
set_option linter.unusedSimpArgs false
set_option linter.unusedVariables false
set_option linter.unusedSectionVars false
open Go Go.RowKit

section step
variable {P : Program} {n : Nat} {K : Pend → Env → World → Prop} {l : List It} {O O' : Pend} {e : Env} {w : World} {i ty : Nat} {d : Tmp} {pos : String} {aft : Array Edge} {gd g : Option (Nat × Bool)}
variable {B : Nat} {w0 : World} {L L' : List Rg}

theorem run_isAgg {t : TypeId} {m : Nat} (ht : aggT P t m = true) (w : World) : (isAgg t).run P w = .ok true w := by
  obtain ⟨dsc, hu, hr, _⟩ := aggT_spec ht
  unfold isAgg
  rw [Sem.run_bind, run_underlying hu w]
  cases dsc <;> first | rfl | cases hr
theorem run_isAggN {t : TypeId} (ht : scalarT P t = true) (w : World) : (isAgg t).run P w = .ok false w := by
  unfold scalarT at ht
  unfold isAgg
  cases hu : P.underlying t with
  | none => rw [hu] at ht; cases ht
  | some dd =>
    rw [Sem.run_bind, run_underlying hu w]
    rw [hu] at ht
    cases dd <;> first | rfl | cases ht
theorem aggT_sz {t : TypeId} {m : Nat} (ht : aggT P t m = true) : szT P t m = true := by
  unfold aggT at ht; unfold szT
  simp only [Bool.and_eq_true] at ht; exact ht.2
theorem extract_mid (A C D : List Value) : (A ++ C ++ D).toArray.extract A.length (A.length + C.length) = C.toArray := by
  apply Array.ext'
  rw [List.append_assoc]
  simp
theorem run_partA {t : TypeId} {m : Nat} (ht : aggT P t m = true) {cs A C D : List Value} (hc : cs = A ++ C ++ D) (hm : C.length = m) (w : World) : (part t cs.toArray A.length).run P w = .ok (.agg C.toArray) w := by
  subst hc
  unfold part
  rw [Sem.run_bind, run_isAgg ht w]
  simp only [Result.andThen, if_true]
  rw [Sem.run_bind, szT_spec (aggT_sz ht) w]
  simp only [Result.andThen, Sem.run_pure]
  rw [← hm, extract_mid]
theorem range_split (a b c : Nat) (f : Nat → Value) : (List.range (a + b + c)).map f = (List.range a).map f ++ (List.range b).map (fun q => f (a + q)) ++ (List.range c).map (fun q => f (a + b + q)) := by
  rw [List.range_add, List.range_add, List.map_append, List.map_append, List.map_map, List.map_map]; rfl
/-- an element of many cells of an array that is a value -/
theorem Plan.indexAA {x y : Operand} {t : TypeId} {len m j sz : Nat} {f : Nat → Value} {k : IntKind} {el : TypeId} (hu : P.underlying t = some (.array len el)) (hs : aggT P el sz = true) (hg : wantedE n e g = true)
    (hx : ev n e x = AG [(m, f)]) (hy : ev n e y = .int k (j : Int)) (hj : j < len) (hm : len * sz ≤ m) (h : Plan P n K l O (upd e d (AG [(sz, fun q => f (j * sz + q))])) w) : Plan P n K (⟨i, true, ⟨some d, .index t x y, ty, pos, aft, gd⟩, g⟩ :: l) O e w :=
  Plan.val hg (fun w => run_v (by
    rw [hx, hy]
    have hc : (0 : Int) ≤ (j : Int) ∧ (j : Int) < (len : Int) := by omega
    have h1 : j * sz + sz ≤ m := Nat.le_trans (by rw [← Nat.succ_mul]; exact Nat.mul_le_mul_right _ hj) hm
    have hp := run_partA hs (cs := catL [(m, f)]) (A := (List.range (j * sz)).map f) (C := (List.range sz).map fun q => f (j * sz + q)) (D := (List.range (m - (j * sz + sz))).map fun q => f (j * sz + sz + q)) (by
      rw [catL_one, ← range_split]; congr 2; omega) (by simp) w
    simp only [List.length_map, List.length_range] at hp
    simp only [AG, Instr.index, asIntOf, Sem.run_bind, Sem.run_pure, Result.andThen, run_underlying hu w, if_pos hc, szT_spec (aggT_sz hs), Int.toNat_natCast]
    rw [hp, catL_one])) h

/-! fields of values -/
def fieldAtB (P : Program) (t : TypeId) (f off : Nat) (ft : TypeId) : Bool := match P.underlying t with
  | some (.struct fs) => match fs[f]? with
    | some fd => fd.offset == off && fd.type == ft
    | none => false
  | _ => false
theorem sum_catL (ps : List (Nat × (Nat → Value))) : (catL ps).length = (ps.map (·.1)).sum := catL_length ps
theorem catL_app (A C : List (Nat × (Nat → Value))) : catL (A ++ C) = catL A ++ catL C := by unfold catL; rw [List.flatMap_append]
theorem run_field {t ft : TypeId} {f off : Nat} (hf : fieldAtB P t f off ft = true) {cs : Array Value} {v : Value} {w : World} (h : (part ft cs off).run P w = .ok v w) : (Instr.field t (.agg cs) f).run P w = .ok v w := by
  unfold fieldAtB at hf
  cases hu : P.underlying t with
  | none => rw [hu] at hf; cases hf
  | some dd =>
    rw [hu] at hf
    cases dd <;> try (cases hf; done)
    rename_i fs
    simp only at hf
    cases hfd : fs[f]? with
    | none => rw [hfd] at hf; cases hf
    | some fd =>
      rw [hfd] at hf
      simp only [Bool.and_eq_true, beq_iff_eq] at hf
      obtain ⟨h1, h2⟩ := hf
      unfold Instr.field
      rw [Sem.run_bind, run_underlying hu w]
      simp only [Result.andThen, hfd]
      rw [Sem.run_bind]
      show Result.andThen (.ok cs w) _ = _
      simp only [Result.andThen]
      rw [h1, h2]; exact h
theorem Plan.fieldA {t ft : TypeId} {x : Operand} {f off : Nat} {ps1 ps2 ps3 : List (Nat × (Nat → Value))} (hf : fieldAtB P t f off ft = true) (hs : aggT P ft (ps2.map (·.1)).sum = true) (hg : wantedE n e g = true) (hx : ev n e x = AG (ps1 ++ ps2 ++ ps3)) (ho : (ps1.map (·.1)).sum = off)
    (h : Plan P n K l O (upd e d (AG ps2)) w) : Plan P n K (⟨i, true, ⟨some d, .field t x f, ty, pos, aft, gd⟩, g⟩ :: l) O e w :=
  Plan.val hg (fun w => run_v (by
    rw [hx]
    refine run_field hf ?_
    rw [catL_app, catL_app, ← ho, ← catL_length]
    exact run_partA hs rfl (catL_length _) w)) h
theorem Plan.fieldS {t ft : TypeId} {x : Operand} {f off : Nat} {ps1 ps3 : List (Nat × (Nat → Value))} {F : Nat → Value} {v : Value} (hf : fieldAtB P t f off ft = true) (hs : scalarT P ft = true) (hg : wantedE n e g = true) (hx : ev n e x = AG (ps1 ++ [(1, F)] ++ ps3)) (ho : (ps1.map (·.1)).sum = off) (hv : F 0 = v)
    (h : Plan P n K l O (upd e d v) w) : Plan P n K (⟨i, true, ⟨some d, .field t x f, ty, pos, aft, gd⟩, g⟩ :: l) O e w :=
  Plan.val hg (fun w => run_v (by
    rw [hx]
    refine run_field hf ?_
    unfold part
    rw [Sem.run_bind, run_isAggN hs w]
    have : (catL (ps1 ++ [(1, F)] ++ ps3)).toArray[off]? = some v := by
      rw [catL_app, catL_app, ← ho, ← catL_length]
      simp [catL_one, hv]
    simp only [Result.andThen, Bool.false_eq_true, if_false, this, Sem.run_pure])) h

/-! slices of slices of bytes -/
def Bss (L : List Rg) (ix : Nat) (a : Option Addr) (len cc : Nat) (X : List (List Byte)) : Prop :=
  X.length = len ∧ len ≤ cc ∧ (0 < len → ∃ (offs ms js b : Nat) (A : Nat → Option Addr) (N C : Nat → Nat) (rw : Bool), L[ix]? = some ⟨some b, offs, ms, fun q => .slice (A q) (N q) (C q), rw⟩ ∧ a = some ⟨b, offs + js, none⟩ ∧ js + len ≤ ms ∧ ∀ q, q < len → ∃ iy, Bx L iy (A (js + q)) (N (js + q)) (C (js + q)) (X.getD q []))
theorem Bss.hl {L : List Rg} {ix : Nat} {a : Option Addr} {len cc : Nat} {X : List (List Byte)} (h : Bss L ix a len cc X) : X.length = len := h.1
theorem Bss.nil {L : List Rg} (ix : Nat) {a : Option Addr} {cc : Nat} : Bss L ix a 0 cc [] := ⟨rfl, Nat.zero_le _, fun h => absurd h (Nat.lt_irrefl 0)⟩
theorem Bss.app {L : List Rg} {ix : Nat} {a : Option Addr} {len cc : Nat} {X : List (List Byte)} (h : Bss L ix a len cc X) (D : List Rg) : Bss (D ++ L) (ix + D.length) a len cc X := by
  obtain ⟨hl, hc, h⟩ := h
  refine ⟨hl, hc, fun hn => ?_⟩
  obtain ⟨offs, ms, js, b, A, N, C, rw, h1, h2, h3, h4⟩ := h hn
  refine ⟨offs, ms, js, b, A, N, C, rw, ?_, h2, h3, fun q hq => ?_⟩
  · rw [List.getElem?_append_right (by omega), Nat.add_sub_cancel]; exact h1
  · obtain ⟨iy, hy⟩ := h4 q hq; exact ⟨_, hy.app D⟩
theorem Bss.of {L : List Rg} (k : Nat) {b m : Nat} {A : Nat → Option Addr} {N C : Nat → Nat} {rw : Bool} {X : List (List Byte)} (h : L[k]? = some ⟨some b, 0, m, fun q => .slice (A q) (N q) (C q), rw⟩) (hl : X.length = m) (hx : ∀ q, q < m → ∃ iy, Bx L iy (A q) (N q) (C q) (X.getD q [])) : Bss L k (some ⟨b, 0, none⟩) m m X :=
  ⟨hl, Nat.le_refl _, fun _ => ⟨0, m, 0, b, A, N, C, rw, h, rfl, by omega, fun q hq => by rw [Nat.zero_add]; exact hx q hq⟩⟩
theorem Plan.idxBss {t : TypeId} {x y : Operand} {k : IntKind} {ix len cc j : Nat} {a : Option Addr} {X : List (List Byte)} (hX : Bss L ix a len cc X) (ha : slB P t 1 = true) (hg : wantedE n e g = true) (hx : ev n e x = .slice a len cc) (hy : ev n e y = .int k (j : Int)) (hj : j < len)
    (h : Plan P n K l O (upd e d (.pointer (a.map fun z => ⟨z.block, z.off + j, none⟩))) w) : Plan P n K (⟨i, true, ⟨some d, .indexAddr t x y, ty, pos, aft, gd⟩, g⟩ :: l) O e w := by
  obtain ⟨hl, hc, hX⟩ := hX
  obtain ⟨offs, ms, js, b, A, N, C, rw, h1, h2, h3⟩ := hX (by omega)
  subst h2
  exact Plan.idxSl1 ha hg hx hy hj h
theorem Plan.loadBss {D : List Rg} (hst : St B w0 (D ++ L) w) {t : TypeId} {x : Operand} {ix len cc j : Nat} {a : Option Addr} {X : List (List Byte)} (hX : Bss L ix a len cc X) (hg : wantedE n e g = true) (hx : ev n e x = .pointer (a.map fun z => ⟨z.block, z.off + j, none⟩)) (hj : j < len) (ht : scalarT P t = true)
    (h : ∀ r iy a' c', (D ++ L)[ix + D.length]? = some r → Bx L iy a' (X.getD j []).length c' (X.getD j []) → Plan P n K l ((i, r.at) :: O) (upd e d (.slice a' (X.getD j []).length c')) w) : Plan P n K (⟨i, true, ⟨some d, .load t x, ty, pos, aft, gd⟩, g⟩ :: l) O e w := by
  obtain ⟨hl, hc, hX⟩ := hX
  obtain ⟨offs, ms, js, b, A, N, C, rw, h1, h2, h3, h4⟩ := hX (by omega)
  subst h2
  obtain ⟨iy, hy⟩ := h4 j hj
  have hx' : ev n e x = .pointer (some ⟨b, offs + (js + j), none⟩) := by rw [hx, ← Nat.add_assoc]; rfl
  have h1' : (D ++ L)[ix + D.length]? = some ⟨some b, offs, ms, fun q => .slice (A q) (N q) (C q), rw⟩ := by rw [List.getElem?_append_right (by omega), Nat.add_sub_cancel]; exact h1
  refine Plan.load1 hst _ hg hx' h1' (by omega) ht ?_
  have hl2 := hy.hl
  have := h _ iy (A (js + j)) (C (js + j)) h1' (by rw [← hl2] at hy; exact hy)
  rw [hl2] at this
  exact this
/-! a struct's literal, part by part -/
theorem writeL_mid (Y : List Value) : ∀ (A Z C : List Value), Y.length = Z.length → writeL (A ++ Z ++ C) A.length Y = A ++ Y ++ C := by
  induction Y with
  | nil => intro A Z C h; obtain rfl := List.length_eq_zero_iff.1 h.symm; rfl
  | cons y Y ih =>
    intro A Z C h
    cases Z with
    | nil => simp at h
    | cons z Z =>
      have h1 : (A ++ z :: Z ++ C).set A.length y = (A ++ [y]) ++ Z ++ C := by simp
      show writeL ((A ++ z :: Z ++ C).set A.length y) (A.length + 1) Y = _
      rw [h1]
      have h2 := ih (A ++ [y]) Z C (by simpa using h)
      rw [List.length_append] at h2
      rw [show A.length + 1 = A.length + [y].length from rfl, h2]
      simp
abbrev PS := List (Nat × (Nat → Value))
inductive FillP (pl : List (Nat × Nat)) : PS → List (Nat × Value) → PS → Prop
  | nil {z : PS} : FillP pl z [] z
  | agg {i : Nat} {r : List (Nat × Value)} {ps : PS} (A Z C Y : PS) (h : pl[i]? = some ((A.map (·.1)).sum, (Z.map (·.1)).sum)) (hs : (Y.map (·.1)).sum = (Z.map (·.1)).sum) (t : FillP pl (A ++ Y ++ C) r ps) : FillP pl (A ++ Z ++ C) ((i, AG Y) :: r) ps
  | one {i : Nat} {r : List (Nat × Value)} {ps : PS} {v : Value} (A C : PS) (F : Nat → Value) (h : pl[i]? = some ((A.map (·.1)).sum, 1)) (hv : cellsL v = [v]) (t : FillP pl (A ++ [(1, fun _ => v)] ++ C) r ps) : FillP pl (A ++ [(1, F)] ++ C) ((i, v) :: r) ps
theorem fillStep {place : Nat → Option (Nat × Nat)} {A Z C Y : List Value} {i : Nat} {v : Value} {r : List (Nat × Value)} (h : place i = some (A.length, Z.length)) (hs : Y.length = Z.length) (hv : cellsL v = Y) : fillL place (A ++ Z ++ C) ((i, v) :: r) = fillL place (A ++ Y ++ C) r := by
  simp only [fillL, h, hv]
  have h1 : (Nat.beq Y.length Z.length && Nat.ble (A.length + Z.length) (A ++ Z ++ C).length) = true := by
    simp only [Bool.and_eq_true, Nat.beq_eq, Nat.ble_eq, List.length_append]; omega
  rw [h1, writeL_mid Y A Z C hs]; rfl
theorem FillP.fill {pl : List (Nat × Nat)} {z ps : PS} {vs : List (Nat × Value)} (h : FillP pl z vs ps) : fillL (fun i => pl[i]?) (catL z) vs = some (catL ps) := by
  induction h with
  | nil => rfl
  | agg A Z C Y h hs t ih =>
    rw [catL_app, catL_app] at ih ⊢
    rw [fillStep (Y := catL Y) (by rw [h, catL_length, catL_length]) (by rw [catL_length, catL_length, hs]) rfl]
    exact ih
  | @one i r ps v A C F h hv t ih =>
    rw [catL_app, catL_app] at ih ⊢
    rw [fillStep (A := catL A) (Z := catL [(1, F)]) (C := catL C) (Y := catL [(1, fun _ => v)]) (place := fun i => pl[i]?) (by simp only [h, catL_length]; rfl) rfl (by rw [hv]; rfl)]
    exact ih
theorem Plan.buildP {t : TypeId} {parts : Array (Nat × Operand)} {pl : List (Nat × Nat)} {zps ps : List (Nat × (Nat → Value))} {vs : List (Nat × Value)} (ha : placesB P t pl = true) (hpl : pl.all (fun q => q.2 < 1000000) = true) (hz : zeroIs P t zps) (hg : wantedE n e g = true)
    (hv : parts.toList.map (fun p => (p.1, ev n e p.2)) = vs) (hf' : FillP pl zps vs ps)
    (h : Plan P n K l O (upd e d (AG ps)) w) : Plan P n K (⟨i, true, ⟨some d, .build t parts, ty, pos, aft, gd⟩, g⟩ :: l) O e w := Plan.buildStr ha hpl hz hg hv hf'.fill h

/-! a view that is the same in another list of ranges -/
theorem Bx.unapp {L D : List Rg} {i : Nat} {a : Option Addr} {len cc : Nat} {X : List Byte} (h : Bx (D ++ L) (i + D.length) a len cc X) : Bx L i a len cc X := by
  obtain ⟨hl, hc, h⟩ := h
  refine ⟨hl, hc, fun hn => ?_⟩
  obtain ⟨offs, ms, js, os, ps, G, rw, h1, h2⟩ := h hn
  rw [List.getElem?_append_right (by omega), Nat.add_sub_cancel] at h1
  exact ⟨offs, ms, js, os, ps, G, rw, h1, h2⟩
theorem Bx.move {L L' : List Rg} {i j : Nat} {r : Rg} {a : Option Addr} {len cc : Nat} {X : List Byte} (h : Bx L i a len cc X) (hi : L[i]? = some r) (hj : L'[j]? = some r) : Bx L' j a len cc X := by
  obtain ⟨hl, hc, h⟩ := h
  refine ⟨hl, hc, fun hn => ?_⟩
  obtain ⟨offs, ms, js, os, ps, G, rw, h1, h2⟩ := h hn
  rw [hi] at h1
  exact ⟨offs, ms, js, os, ps, G, rw, hj.trans h1, h2⟩
theorem Plan.minI {at' : Array TypeId} {x y : Operand} {a b : Int} (hg : wantedE n e g = true) (hx : ev n e x = .int .i64 a) (hy : ev n e y = .int .i64 b) (h : Plan P n K l O (upd e d (.int .i64 (min a b))) w) :
    Plan P n K (⟨i, true, ⟨some d, .call ⟨.builtin .min, #[x, y], at'⟩, ty, pos, aft, gd⟩, g⟩ :: l) O e w :=
  Plan.val hg (fun w => run_blt2s (P := P) fun cs => by
    rw [hx, hy]
    simp only [builtin, Sem.run_bind, Builtin.min_, List.foldlM_cons, List.foldlM_nil, Builtin.min2, Sem.run_pure, Result.andThen_ok]
    have e1 : (if (b < a) then b else a) = min a b := by split <;> omega
    simp [e1]) h
theorem Plan.idxVS (hst : St B w0 L w) {t : TypeId} {x y : Operand} {k : IntKind} {ix len cc j : Nat} {a : Option Addr} {X : List Byte} (hX : Bx L ix a len cc X) (ha : slB P t 1 = true) (hg : wantedE n e g = true) (hx : ev n e x = .slice a len cc) (hy : ev n e y = .int k (j : Int)) (hj : j < len)
    (h : Plan P n K l O (upd e d (.pointer (a.map fun z => ⟨z.block, z.off + j, none⟩))) w) : Plan P n K (⟨i, true, ⟨some d, .indexAddr t x y, ty, pos, aft, gd⟩, g⟩ :: l) O e w := Plan.idxV hX ha hg hx hy hj h
theorem Plan.sl2arrVS (hst : St B w0 L w) {t : TypeId} {x : Operand} {ix m len cap : Nat} {a : Option Addr} {X : List Byte} {el : TypeId} (hX : Bx L ix a len cap X) (hu : P.underlying t = some (.array m el)) (hg : wantedE n e g = true) (hx : ev n e x = .slice a len cap) (hm : 0 < m ∧ m ≤ len)
    (h : Plan P n K l O (upd e d (.pointer a)) w) : Plan P n K (⟨i, true, ⟨some d, .sliceToArrayPointer t x, ty, pos, aft, gd⟩, g⟩ :: l) O e w := Plan.sl2arrV hX hu hg hx hm h
theorem Plan.maxI {at' : Array TypeId} {x y : Operand} {a b : Int} (hg : wantedE n e g = true) (hx : ev n e x = .int .i64 a) (hy : ev n e y = .int .i64 b) (h : Plan P n K l O (upd e d (.int .i64 (max a b))) w) :
    Plan P n K (⟨i, true, ⟨some d, .call ⟨.builtin .max, #[x, y], at'⟩, ty, pos, aft, gd⟩, g⟩ :: l) O e w :=
  Plan.val hg (fun w => run_blt2s (P := P) fun cs => by
    rw [hx, hy]
    simp only [builtin, Sem.run_bind, Builtin.max_, List.foldlM_cons, List.foldlM_nil, Builtin.max2, Sem.run_pure, Result.andThen_ok]
    have e1 : (if (b > a) then b else a) = max a b := by split <;> omega
    simp [e1]) h
theorem Plan.maxN {at' : Array TypeId} {x y : Operand} {a b : Nat} (hg : wantedE n e g = true) (hx : ev n e x = VN a) (hy : ev n e y = VN b) (h : Plan P n K l O (upd e d (VN (max a b))) w) :
    Plan P n K (⟨i, true, ⟨some d, .call ⟨.builtin .max, #[x, y], at'⟩, ty, pos, aft, gd⟩, g⟩ :: l) O e w :=
  Plan.maxI hg hx hy (by
    have : max (a : Int) (b : Int) = ((max a b : Nat) : Int) := by omega
    rw [this]; exact h)
/-- the lowest bits of an int -/
theorem Plan.maskI {t yt : TypeId} {x y : Operand} {a : Int} (k : Nat) (hk : k < 63) (hg : wantedE n e g = true) (hx : ev n e x = .int .i64 a) (hy : ev n e y = .int .i64 ((2 ^ k - 1 : Nat) : Int))
    (h : Plan P n K l O (upd e d (.int .i64 (a % ((2 ^ k : Nat) : Int)))) w) : Plan P n K (⟨i, true, ⟨some d, .binOp .and t x y yt, ty, pos, aft, gd⟩, g⟩ :: l) O e w :=
  Plan.val hg (fun w => run_bin hx hy (by
    have hp : (2 : Nat) ^ k ≤ 2 ^ 62 := Nat.pow_le_pow_right (by omega) (by omega)
    have hp0 : 0 < (2 : Nat) ^ k := Nat.pow_pos (by omega)
    simp only [binOp, ne_eq, not_true_eq_false, if_false, Op.intBits, BitVec.ofInt_natCast]
    have e1 : (BitVec.ofNat 64 (2 ^ k - 1)).toNat = 2 ^ k - 1 := by simp only [BitVec.toNat_ofNat]; omega
    have e2 : ((BitVec.ofInt 64 a &&& BitVec.ofNat 64 (2 ^ k - 1)).toNat : Int) = a % ((2 ^ k : Nat) : Int) := by
      rw [BitVec.toNat_and, e1, Nat.and_two_pow_sub_one_eq_mod, BitVec.toNat_ofInt]
      have h0 : 0 ≤ a % ((2 ^ 64 : Nat) : Int) := Int.emod_nonneg _ (by decide)
      rw [Int.natCast_emod, Int.toNat_of_nonneg h0]
      refine Int.emod_emod_of_dvd a ?_
      have : (2 ^ k : Nat) ∣ 2 ^ 64 := Nat.pow_dvd_pow 2 (by omega)
      exact Int.natCast_dvd_natCast.2 this
    show (Sem.pure (Value.int .i64 (IntKind.i64.wrap ((BitVec.ofInt 64 a &&& BitVec.ofNat 64 (2 ^ k - 1)).toNat : Int)))).run P w = _
    rw [e2, wrap_i64_in _ (by
      have h1 := Int.emod_nonneg a (show ((2 ^ k : Nat) : Int) ≠ 0 by omega)
      have h2 := Int.emod_lt_of_pos a (show (0 : Int) < ((2 ^ k : Nat) : Int) by omega)
      omega)]
    rfl)) h
end step
end Go.LW

/-
  ENGINE X, PART 4 (own work): arguments that came in: numbers, arrays of numbers.
-/
namespace Go.LW
set_option linter.unusedSimpArgs false
set_option linter.unusedVariables false
set_option linter.unusedSectionVars false
open Go Go.RowKit

theorem has_u {k : IntKind} {s : Nat} (hk : UK k s) {n : Int} (h : k.has n) : n = ((BitVec.ofInt s n).toNat : Int) := by
  have h1 : 0 ≤ n ∧ n < (2 ^ s : Nat) := by
    cases hk <;> simp [IntKind.has, IntKind.min, IntKind.max, IntKind.signed, IntKind.bits] at h <;> omega
  rw [BitVec.toNat_ofInt, Int.emod_eq_of_lt h1.1 h1.2, Int.toNat_of_nonneg h1.1]
theorem cell_u {P : Program} {w : World} {r : Reach} {base : Nat} {t : TypeId} {v : Value} {k : IntKind} (hu : P.underlying t = some (.int k)) (h : Cell.okWide P w r base t v) : ∃ n, v = .int k n ∧ k.has n := by
  unfold Cell.okWide at h
  rw [hu] at h
  cases v <;> simp [Cell.ok, hu] at h
  obtain ⟨rfl, h⟩ := h
  exact ⟨_, rfl, h⟩
theorem arg_int {P : Program} {w : World} {r : Reach} {base : Nat} {t : TypeId} {v : Value} {k : IntKind} (hu : P.underlying t = some (.int k)) (h : Value.okWide P w r base t v) : ∃ n, v = .int k n ∧ k.has n := by
  unfold Value.okWide at h
  rw [hu] at h
  exact cell_u hu h
theorem arg_u {P : Program} {w : World} {r : Reach} {base : Nat} {t : TypeId} {v : Value} {k : IntKind} {s : Nat} (hk : UK k s) (hu : P.underlying t = some (.int k)) (h : Value.okWide P w r base t v) : ∃ X : BitVec s, v = VU k X := by
  obtain ⟨n, rfl, hn⟩ := arg_int hu h
  exact ⟨BitVec.ofInt s n, congrArg (Value.int k) (has_u hk hn)⟩
/-- an array of numbers -/
theorem arg_arr {P : Program} {w : World} {r : Reach} {base : Nat} {t u e n : Nat} {v : Value} {k : IntKind} {s m : Nat} (hk : UK k s) (hu : P.underlying t = some (.array n e)) (hts : P.cellTypes P.depth t = some (List.replicate m u)) (hc : P.cellsOf t = m) (hku : P.underlying u = some (.int k))
    (h : Value.okWide P w r base t v) : ∃ F : Nat → BitVec s, v = AG [(m, fun q => VU k (F q))] := by
  unfold Value.okWide at h
  rw [hu] at h
  obtain ⟨cs, rfl, hsz, ts, hts', _, hcell⟩ := h
  rw [hts] at hts'
  obtain rfl := Option.some.inj hts'
  rw [hc] at hsz
  have hget : ∀ i, i < m → ∃ x : BitVec s, cs[i]? = some (VU k x) := fun i hi => by
    have h1 : cs[i]? = some (cs[i]'(by omega)) := Array.getElem?_eq_getElem (by omega)
    obtain ⟨u', hu', hok⟩ := hcell i _ h1
    rw [List.length_replicate, Nat.mod_eq_of_lt hi, List.getElem?_replicate, if_pos hi] at hu'
    obtain rfl := Option.some.inj hu'
    obtain ⟨n', hn', hh⟩ := cell_u hku hok
    exact ⟨BitVec.ofInt s n', by rw [h1, hn']; exact congrArg (fun z => some (Value.int k z)) (has_u hk hh)⟩
  let F : Nat → BitVec s := fun q => if hq : q < m then (hget q hq).choose else 0#s
  refine ⟨F, ?_⟩
  unfold AG
  rw [catL_one]
  congr 1
  apply Array.ext_getElem?
  intro q
  by_cases hq : q < m
  · rw [(hget q hq).choose_spec]
    simp [hq, F]
  · rw [Array.getElem?_eq_none (by omega)]
    simp [hq]
/-- a slice of bytes that came in -/
theorem IsRow.bx {B : Nat} {w0 w : World} {L : List Rg} {a : Option Addr} {len cap : Nat} {zs : List Int} (hz : IsRow .u8 w a len cap zs) (h : St B w0 L w) (hr : roL L) : ∃ (r : Rg) (X : List Byte) (ix : Nat), St B w0 (r :: L) w ∧ roL (r :: L) ∧ Bx (r :: L) ix a len cap X := by
  obtain ⟨r, h1, h2, h3⟩ := hz.bytes h hr
  obtain ⟨X, hl, h4⟩ := h3.list
  obtain ⟨ix, h5⟩ := h4.bx hl
  exact ⟨r, X, ix, h1, h2, h5⟩
end Go.LW

/-
  ENGINE X, PART 5 (own work): zeros appended; slices of three; numbers added with a carry.
-/
namespace Go.LW
set_option linter.unusedSimpArgs false
set_option linter.unusedVariables false
set_option linter.unusedSectionVars false
open Go Go.RowKit

section step
variable {P : Program} {n : Nat} {K : Pend → Env → World → Prop} {l : List It} {O O' : Pend} {e : Env} {w : World} {i ty : Nat} {d : Tmp} {pos : String} {aft : Array Edge} {gd g : Option (Nat × Bool)}
variable {B : Nat} {w0 : World} {L L' : List Rg}

/-! append(x, make([]byte, n)...) -/
def zerosS (n : Nat) : ByteArray := ⟨(Array.replicate n 0)⟩
theorem zerosS_cells (n : Nat) : byteCells (zerosS n) = (List.range (n * 1)).map fun _ => VU .u8 0#8 := by
  unfold byteCells zerosS
  simp
  apply List.ext_getElem?
  intro q
  simp [List.getElem?_replicate]
  by_cases hq : q < n <;> simp [hq]
theorem run_append_zeros {t tI tS ty : TypeId} (he : elB P t 1 1 (VU .u8 0#8)) (hI : P.underlying tI = some (.int .i64)) (hS : P.underlying tS = some .string) {a : Option Addr} {len cap m : Nat} (hlc : len ≤ cap) (hb : len + m ≤ 140737488355328) (w : World) :
    (Builtin.append_ #[t, tI] ty #[.slice a len cap, VN m]).run P w = (Builtin.append_ #[t, tS] ty #[.slice a len cap, .string (zerosS m)]).run P w := by
  obtain ⟨el, inf, hu, hi, hs1, hby, hz⟩ := he
  have hw : IntKind.i64.wrap (m : Int) = m := wrap_i64_in _ (by omega)
  have hsz : (zerosS m).size = m := by simp [zerosS, ByteArray.size]
  have hcells : (Builtin.firstCells 1 m (.string (zerosS m))) = (if m * 1 = 0 then (pure #[] : Sem (Array Value)) else pure (Builtin.zeroCells (VU .u8 0#8 : Value).cells m)) := by
    have h1 := zerosS_cells m
    unfold byteCells at h1
    have h2 : ((zerosS m).extract 0 m) = zerosS m := by
      apply ByteArray.ext
      simp [zerosS]
    show (pure (((zerosS m).extract 0 m).data.map fun b => Value.int .u8 (b.toNat : Int)) : Sem (Array Value)) = _
    rw [h2]
    have h3 : ((zerosS m).data.map fun b => Value.int .u8 (b.toNat : Int)) = (Builtin.zeroCells (VU .u8 0#8 : Value).cells m) := by
      apply Array.ext'
      rw [Array.toList_map, h1]
      show _ = (Builtin.zeroCells #[VU .u8 0#8] m).toList
      unfold Builtin.zeroCells
      simp only [Array.toList_map, Array.toList_range]
      refine List.map_congr_left fun q _ => ?_
      simp [Nat.mod_one]
    split
    · rename_i h0
      obtain rfl : m = 0 := by omega
      simp [zerosS]
    · rw [h3]
  have hA : ∀ w : World, (asInt (VN m)).run P w = .ok (m : Int) w := fun _ => rfl
  have hzv : ∀ w : World, (zeroValue el).run P w = .ok (VU .u8 0#8) w := fun w => run_zeroValue (by rw [hi]; exact hz) w
  have n1 : ¬ ((m : Int) < 0) := by omega
  have n2 : ¬ (281474976710656 < (m : Int)) := by omega
  have n3 : ¬ (9223372036854775807 < (len : Int) + (m : Int)) := by omega
  have hw0 : IntKind.i64.wrap 0 = 0 := by decide
  by_cases hm0 : m = 0
  · subst hm0
    by_cases hroom : len ≤ cap
    · simp [Builtin.append_, run_underlying hu, run_underlying hI, run_underlying hS, sizeOf, typeInfo, hi, hs1, hby, hA, Builtin.lenOf, hsz, hw, hw0, hcells, hroom, hzv]
    · omega
  · by_cases hroom : len + m ≤ cap
    · simp [Builtin.append_, run_underlying hu, run_underlying hI, run_underlying hS, sizeOf, typeInfo, hi, hs1, hby, hA, Builtin.lenOf, hsz, hw, hcells, hroom, hzv, n1, n2, n3, hm0]
    · have hfit := growslice_fits (need := len + m) (old := cap) (bytes := inf.bytes) (by omega) (by rw [hby]; omega)
      have n4 : ¬ (281474976710656 < Builtin.nextslicecap (len + m) cap) := by rw [hby] at hfit; omega
      simp [Builtin.append_, run_underlying hu, run_underlying hI, run_underlying hS, sizeOf, typeInfo, hi, hs1, hby, hA, Builtin.lenOf, hsz, hw, hcells, hroom, hzv, n1, n2, n3, n4, hm0]
theorem Plan.appendZ (hst : St B w0 L w) {t tI tS : TypeId} {x y : Operand} {len cap m : Nat} {a : Option Addr} {pb : Option Nat} {F : Nat → Byte} {X : List Byte} (k : Nat) (hO : Ow a pb len cap F X) (he : elD P t = some (1, 1, some (VU .u8 0#8))) (hI : P.underlying tI = some (.int .i64)) (hS : P.underlying tS = some .string) (hg : wantedE n e g = true)
    (hx : ev n e x = .slice a len cap) (hy : ev n e y = VN m) (hL : L[k]? = some ⟨pb, 0, cap, fun q => VU .u8 (F q), true⟩) (hb : len + m ≤ 140737488355328)
    (hw : ∀ r, EffO aft O (L.set k r) O')
    (h : ∀ a' pb' cap' (F' : Nat → Byte) w', Ow a' pb' (X ++ List.replicate m 0#8).length cap' F' (X ++ List.replicate m 0#8) → St B w0 (L.set k ⟨pb', 0, cap', fun q => VU .u8 (F' q), true⟩) w' → Plan P n K l O' (updO e (some d) (.slice a' (X ++ List.replicate m 0#8).length cap')) w') :
    Plan P n K (⟨i, false, ⟨some d, .call ⟨.builtin .append, #[x, y], #[t, tI]⟩, ty, pos, aft, gd⟩, g⟩ :: l) O e w := by
  have hsrc : Src P 1 tS (.string (zerosS m)) m ((List.range (m * 1)).map fun q => VU .u8 ((fun _ => 0#8 : Nat → Byte) q)) w := by
    have h1 := Src.ofString (P := P) w hS (zerosS m)
    rw [zerosS_cells, show (zerosS m).size = m by simp [zerosS, ByteArray.size]] at h1
    exact h1
  obtain ⟨w', a', pb', cap', ip, hr, ho', hcap, hst'⟩ := run_appendS (P := P) (ty := ty) (s := 1) (zf := fun _ => VU .u8 0#8) hst (elB_of he) rfl (fun q hq => by cases Nat.lt_one_iff.1 hq; rfl) (by rw [Nat.mul_one]; exact hL) hO.ho hsrc hO.hc (by omega) (by omega)
  have hfun : (fun q => if ip = true ∨ q < (len + m) * 1 then spl (fun q => VU .u8 (F q)) (len * 1) (m * 1) (fun q => VU .u8 ((fun _ => 0#8 : Nat → Byte) q)) q else VU .u8 0#8) = fun q => VU .u8 (if ip = true ∨ q < len + m then spl F len m (fun _ => 0#8) q else 0#8) := by
    funext q
    simp only [Nat.mul_one, ← spl_map]
    split <;> rfl
  rw [hfun, Nat.mul_one] at hst'
  have hl : (X ++ List.replicate m 0#8).length = len + m := by rw [List.length_append, List.length_replicate, hO.hl]
  refine Plan.effS hg (w' := w') (v := .slice a' (len + m) cap') (run_blt2 fun c => ?_) hst' (hw _) fun w' hw' => ?_
  · rw [hx, hy]
    simp only [builtin, Sem.run_bind, run_append_zeros (elB_of he) hI hS hO.hc hb, hr]
    rfl
  · rw [← hl]
    refine h a' pb' cap' _ w' ⟨ho', by rw [hl]; exact hcap, rfl, fun q hq => ?_⟩ hw'
    rw [hl] at hq
    rw [if_pos (.inr hq), lit_app, hO.hl]
    by_cases h2 : q < len
    · rw [if_pos h2, spl_out _ _ _ _ _ (by omega), hO.hF q h2]
    · rw [if_neg h2, spl_in _ _ _ _ _ (by omega)]
      unfold lit
      rw [List.getD_eq_getElem?_getD, List.getElem?_replicate]
      split <;> rfl

/-! a slice of three, from the head on: the rest is given up -/
theorem St.shrink (h : St B w0 L w) {k m' m : Nat} {p : Option Nat} {off : Nat} {f : Nat → Value} {rw' : Bool} (hL : L[k]? = some ⟨p, off, m, f, rw'⟩) (hm : m' ≤ m) : St B w0 (L.set k ⟨p, off, m', f, rw'⟩) w := by
  obtain ⟨hk, hLk⟩ := List.getElem?_eq_some_iff.1 hL
  refine ⟨h.below, h.base, fun r hr => ?_, fun r hr => ?_, ?_⟩
  · rcases List.mem_or_eq_of_mem_set hr with h1 | rfl
    · exact h.at_ r h1
    · intro j hj
      have := h.mem hL j (show j < m by simp only at hj; omega)
      exact this
  · rcases List.mem_or_eq_of_mem_set hr with h1 | rfl
    · exact h.free r h1
    · intro hrw j hj
      have := h.free _ (List.mem_of_getElem? hL) hrw j (show j < m by simp only at hj; omega)
      exact this
  · rw [List.pairwise_iff_getElem]
    intro i j hi hj hij
    have hp := List.pairwise_iff_getElem.1 h.apart i j (by simpa using hi) (by simpa using hj) hij
    rw [List.getElem_set, List.getElem_set]
    have key : ∀ s : Rg, (Rg.mk p off m f rw').apart s → (Rg.mk p off m' f rw').apart s := fun s hs hr => by
      rcases hs hr with h1 | h1 | h1 | h1 | h1
      · exact .inl h1
      · exact .inr (.inl (by simp only at h1 ⊢; omega))
      · exact .inr (.inr (.inl h1))
      · exact .inr (.inr (.inr (.inl (by simp only at h1 ⊢; omega))))
      · exact .inr (.inr (.inr (.inr h1)))
    split
    · split
      · omega
      · rename_i h1 h2
        subst h1
        rw [hLk] at hp
        exact key _ hp
    · split
      · rename_i h1 h2
        subst h2
        rw [hLk] at hp
        exact (key _ hp.symm).symm
      · exact hp
theorem Ow.cut {a : Option Addr} {pb : Option Nat} {len cap : Nat} {F : Nat → Byte} {X : List Byte} (h : Ow a pb len cap F X) {m : Nat} (hm : m ≤ len) (ha : ¬ (m = 0 ∧ False)) : Ow a pb (seg X 0 m).length m F (seg X 0 m) := by
  have hl : (seg X 0 m).length = m := by rw [seg_length (by rw [h.hl]; exact hm), Nat.sub_zero]
  refine ⟨?_, by omega, rfl, fun q hq => ?_⟩
  · rcases h.ho with ⟨h1, h2, h3⟩ | h1
    · exact .inl ⟨by have := h.hc; omega, h2, h3⟩
    · exact .inr h1
  · rw [hl] at hq
    rw [lit_seg (by rw [h.hl]; exact hm) (by omega), Nat.zero_add]
    exact h.hF q (by omega)
theorem Plan.sl3O (hst : St B w0 L w) {t : TypeId} {x y z : Operand} {a : Option Addr} {pb : Option Nat} {len cap m : Nat} {F : Nat → Byte} {X : List Byte} (k : Nat) (hO : Ow a pb len cap F X) (ha : slB P t 1 = true) (hg : wantedE n e g = true) (hx : ev n e x = .slice a len cap) (hy : ∃ kd, ev n e y = .int kd (m : Int)) (hz : ∃ kd, ev n e z = .int kd (m : Int)) (hm : m ≤ len)
    (hL : L[k]? = some ⟨pb, 0, cap, fun q => VU .u8 (F q), true⟩)
    (h : Ow a pb (seg X 0 m).length m F (seg X 0 m) → St B w0 (L.set k ⟨pb, 0, m, fun q => VU .u8 (F q), true⟩) w → Plan P n K l O (upd e d (.slice a (seg X 0 m).length m)) w) : Plan P n K (⟨i, true, ⟨some d, .slice t x none (some y) (some z), ty, pos, aft, gd⟩, g⟩ :: l) O e w := by
  have hc := hO.hc
  have hl : (seg X 0 m).length = m := by rw [seg_length (by rw [hO.hl]; exact hm), Nat.sub_zero]
  have hcut := hO.cut hm (fun h => h.2)
  refine Plan.val hg (fun w => run_v ?_) (h hcut (hst.shrink hL (by omega)))
  obtain ⟨el, hu, hs⟩ := slB_spec ha
  obtain ⟨ky, hy⟩ := hy
  obtain ⟨kz, hz⟩ := hz
  rw [hx]
  have hbd : (Instr.sliceBounds true len cap none (some (ev n e y)) (some (ev n e z))).run P w = .ok (0, m, m) w := by
    unfold Instr.sliceBounds
    simp [hy, hz, run_sliceBound (show m ≤ cap by omega), run_sliceBound (Nat.le_refl m)]
  have hadd : a.map (·.add (0 * 1)) = a := by
    cases a with
    | none => rfl
    | some a => simp [Addr.add]
  simp only [Option.map_none, Option.map_some, Instr.sliceAt, Instr.slice, Sem.run_bind, run_underlying hu w, Result.andThen, hbd, szT_spec hs, Sem.run_pure, hl, Nat.sub_zero]
  rw [hadd]
  split <;> rfl

/-! numbers added with a carry -/
theorem Plan.add64 {f : FuncId} {fn : Func} {x y c : Operand} {at' : Array TypeId} {X Y C : BitVec 64} (hf : P.funcs[f]? = some fn) (hname : (fn.name == "runtime.NumGoroutine") = false) (hb : fn.body.isNone = true) (hn : Extern.findNext fn = none) (he : Extern.find fn = some add64Entry)
    (hg : wantedE n e g = true) (hx : ev n e x = VU .u64 X) (hy : ev n e y = VU .u64 Y) (hc : ev n e c = VU .u64 C) (hC : C.toNat ≤ 1)
    (h : Plan P n K l O (upd e d (.tuple #[VU .u64 (X + Y + C), VU .u64 (BitVec.ofNat 64 ((X.toNat + Y.toNat + C.toNat) / 2 ^ 64))])) w) :
    Plan P n K (⟨i, false, ⟨some d, .call ⟨.value (.func f), #[x, y, c], at'⟩, ty, pos, aft, gd⟩, g⟩ :: l) O e w := by
  have e1 : ((X.toNat : Int) + Y.toNat + C.toNat) % 18446744073709551616 = ((X + Y + C).toNat : Int) := by
    rw [BitVec.toNat_add, BitVec.toNat_add]; omega
  have e2 : ((X.toNat : Int) + Y.toNat + C.toNat) / 18446744073709551616 = ((BitVec.ofNat 64 ((X.toNat + Y.toNat + C.toNat) / 2 ^ 64)).toNat : Int) := by
    have := X.isLt; have := Y.isLt
    rw [BitVec.toNat_ofNat]; omega
  refine Plan.eff hg ?_
  have hρ : ev n e (.func f) = .func (.func f) #[] #[] := rfl
  have h1 := run_callFunc_extern (P := P) hf hname hb hn he #[VU .u64 X, VU .u64 Y, VU .u64 C] w
  rw [run_add64 _ _ _ (by omega) (by omega) (by omega) (by omega) w, e1, e2] at h1
  simp only [execOp, resolve, hρ, Deferred.ofValue, Sem.run_bind, Sem.run_pure, Result.andThen, invoke]
  have h2 : (#[] ++ Array.map (ev n e) #[x, y, c] ++ #[] : Array Value) = #[VU .u64 X, VU .u64 Y, VU .u64 C] := by simp [hx, hy, hc]
  rw [h2, h1]
  exact .inl ⟨fun p _ hp => hp, h⟩
theorem Plan.quoIw {t yt : TypeId} {x y : Operand} {a b : Int} (hg : wantedE n e g = true) (hx : ev n e x = .int .i64 a) (hy : ev n e y = .int .i64 b) (hb : b ≠ 0) (hr : -9223372036854775808 ≤ a.tdiv b ∧ a.tdiv b ≤ 9223372036854775807)
    (h : Plan P n K l O (upd e d (.int .i64 (a.tdiv b))) w) : Plan P n K (⟨i, true, ⟨some d, .binOp .quo t x y yt, ty, pos, aft, gd⟩, g⟩ :: l) O e w :=
  Plan.quoI hg hx hy hb (by rw [wrap_i64_in _ hr]; exact h)
end step
section step2
variable {P : Program} {n : Nat} {K : Pend → Env → World → Prop} {l : List It} {O O' : Pend} {e : Env} {w : World} {i i2 ty ty2 : Nat} {d d2 : Tmp} {pos pos2 : String} {aft aft2 : Array Edge} {gd gd2 g g2 : Option (Nat × Bool)}
variable {B : Nat} {w0 : World} {L L' : List Rg}
theorem Plan.constBytesO (hO : PIn O L) (hst : St B w0 L w) {t el : TypeId} {len : Nat} {parts : Array (Nat × Operand)} {f : Nat → Value} {vs : List (Nat × Value)} {z : Value} (hu : P.underlying t = some (.slice el)) (he : P.underlying el = some (.int .u8)) (hs : szT P el 1 = true) (hz : (P.info? el).bind (·.zero) = some z)
    (hl : 0 < len * 1) (hl2 : len * 1 ≤ 16777216) (hg : wantedE n e g = true) (hg2 : ∀ v, wantedE n (upd e d v) g2 = true) (hx2 : ∀ v, ev n (upd e d v) (.tmp d) = v)
    (hv : parts.toList.map (fun p => (p.1, ev n e p.2)) = vs) (hf : fillL (fun i => some (i * 1, 1)) ((List.range (len * 1)).map fun i => z.cells[i % z.cells.size]!) vs = some (catL [(len, f)]))
    (h : ∀ b w', B ≤ b → St B w0 (⟨some b, 0, len, f, false⟩ :: L) w' → Plan P n K l O (upd (upd e d (.slice (some ⟨b, 0, none⟩) len len)) d2 (.slice (some ⟨b, 0, none⟩) len len)) w') :
    Plan P n K (⟨i, false, ⟨some d, .buildSlice t len parts, ty, pos, aft, gd⟩, g⟩ :: ⟨i2, false, ⟨some d2, .convert t t (.tmp d), ty2, pos2, aft2, gd2⟩, g2⟩ :: l) O e w := by
  have hr : (execOp (ev n e) ⟨some d, .buildSlice t len parts, ty, pos, aft, gd⟩).run P w = .ok (.value (.slice (some ⟨w.heap.size, 0, none⟩) len len)) (w.alloc (.cells (catL [(len, f)]).toArray el)) := run_v (by
    have hmap : (parts.map fun (i, x) => (i, ev n e x)).toList = vs := by rw [← hv]; simp
    have hf' := fillL_spec _ _ _ hf
    have hrange : ((Array.range (len * 1)).map (z.cells[· % z.cells.size]!)) = ((List.range (len * 1)).map fun i => z.cells[i % z.cells.size]!).toArray := by
      apply Array.ext'; simp
    simp only [Instr.buildSlice, Sem.run_bind, run_underlying hu w, Result.andThen, szT_spec hs, if_neg (show ¬ len * 1 > 2 ^ 24 by omega), Sem.run_pure, if_neg (show ¬ len * 1 = 0 by omega), run_zeroValue hz, hmap, hrange, hf', newRow, newObj]
    rfl)
  refine Plan.eff hg ?_
  rw [hr]
  refine .inl ⟨PIn.keep (hO.app [⟨some w.heap.size, 0, len, f, false⟩] rfl) (hst.allocRo len f el _), ?_⟩
  refine Plan.eff (hg2 _) ?_
  have hr2 : (execOp (ev n (upd e d (.slice (some ⟨w.heap.size, 0, none⟩) len len))) ⟨some d2, .convert t t (.tmp d), ty2, pos2, aft2, gd2⟩).run P (w.alloc (.cells (catL [(len, f)]).toArray el)) = .ok (.value (.slice (some ⟨w.heap.size, 0, none⟩) len len)) (w.alloc (.cells (catL [(len, f)]).toArray el ((catL [(len, f)]).toArray.size, (catL [(len, f)]).toArray.size + 1))) := run_v (by
    rw [hx2]
    exact Lib.run_convert_bytes_const w t el _ len len hu he)
  rw [show updO e (some d) (.slice (some ⟨w.heap.size, 0, none⟩) len len) = upd e d (.slice (some ⟨w.heap.size, 0, none⟩) len len) from rfl, hr2]
  exact .inl ⟨PIn.keep (hO.app [⟨some w.heap.size, 0, len, f, false⟩] rfl) (hst.allocRo len f el _), h _ _ hst.base (hst.allocRo len f el _)⟩

end step2
end Go.LW

/-
  ENGINE X, PART 6 (own work): constant bytes whose block is frozen behind another block's making.
-/
namespace Go.LW
set_option linter.unusedSimpArgs false
set_option linter.unusedVariables false
set_option linter.unusedSectionVars false
open Go Go.RowKit

theorem modify_push2 (a : Array Obj) (x y : Obj) (f : Obj → Obj) : ((a.push x).push y).modify a.size f = (a.push (f x)).push y := by
  apply Array.ext
  · simp
  · intro i h1 h2
    simp only [Array.getElem_modify, Array.getElem_push, Array.size_push]
    by_cases h : a.size = i
    · subst h; simp
    · rw [if_neg h]
      by_cases hi : i < a.size + 1
      · have hi2 : i < a.size := by omega
        simp [hi, hi2]
      · simp [hi]
theorem run_convert_old {P : Program} (w : World) (t e : TypeId) (C : Array Value) (Z : Obj) (n c : Nat) (ht : P.underlying t = some (.slice e)) (he : P.underlying e = some (.int .u8)) :
    (convert t t (.slice (some ⟨w.heap.size, 0, none⟩) n c)).run P ((w.alloc (.cells C e)).alloc Z) = .ok (.slice (some ⟨w.heap.size, 0, none⟩) n c) ((w.alloc (.cells C e (C.size, C.size + 1))).alloc Z) := by
  have hsh : ((w.alloc (.cells C e)).alloc Z).shape? w.heap.size = some (e, C.size) := by
    have : ((w.alloc (.cells C e)).alloc Z).heap[w.heap.size]? = some (.cells C e) := by
      show ((w.heap.push (.cells C e)).push Z)[w.heap.size]? = _
      rw [Array.getElem?_push_lt (by simp), Array.getElem_push_eq]
    unfold World.shape?
    rw [this]
  have hfr : ∀ (k : Nat), ((w.alloc (.cells C e)).alloc Z).freeze ⟨w.heap.size, k, none⟩ 1 = (w.alloc (.cells C e (k, k + 1))).alloc Z := fun k => by
    unfold World.freeze
    rw [if_neg (by decide)]
    show ({ (w.alloc (.cells C e)).alloc Z with heap := ((w.heap.push (.cells C e)).push Z).modify w.heap.size _ } : World) = _
    rw [modify_push2]
    rfl
  simp [convert, run_underlying ht, run_underlying he, markStringish, hsh, hfr]

section step3
variable {P : Program} {n : Nat} {K : Pend → Env → World → Prop} {l : List It} {O O' : Pend} {e : Env} {w : World} {i i2 i3 ty ty2 ty3 : Nat} {d d2 d3 : Tmp} {pos pos2 pos3 : String} {aft aft2 aft3 : Array Edge} {gd gd2 gd3 g g2 g3 : Option (Nat × Bool)}
variable {B : Nat} {w0 : World} {L L' : List Rg}
theorem Plan.constMake (hO : PIn O L) (hst : St B w0 L w) {t el t3 : TypeId} {x y : Operand} {len m c : Nat} {k k' : IntKind} {parts : Array (Nat × Operand)} {f : Nat → Value} {vs : List (Nat × Value)} {z : Value} (hu : P.underlying t = some (.slice el)) (he : P.underlying el = some (.int .u8)) (hs : szT P el 1 = true) (hz : (P.info? el).bind (·.zero) = some z)
    (hl : 0 < len * 1) (hl2 : len * 1 ≤ 16777216) (hg : wantedE n e g = true) (hg3 : ∀ v, wantedE n (upd e d v) g3 = true) (hg2 : ∀ v v3, wantedE n (upd (upd e d v) d3 v3) g2 = true) (hx2 : ∀ v v3, ev n (upd (upd e d v) d3 v3) (.tmp d) = v)
    (hv : parts.toList.map (fun p => (p.1, ev n e p.2)) = vs) (hf : fillL (fun i => some (i * 1, 1)) ((List.range (len * 1)).map fun i => z.cells[i % z.cells.size]!) vs = some (catL [(len, f)]))
    (he3 : elD P t3 = some (1, 1, some (VU .u8 0#8))) (hx : ∀ v, ev n (upd e d v) x = .int k (m : Int)) (hy : ∀ v, ev n (upd e d v) y = .int k' (c : Int)) (hlc : m ≤ c) (hc : c ≤ 281474976710656)
    (h : ∀ b b3 w', B ≤ b → B ≤ b3 → Ow (some ⟨b3, 0, none⟩) (some b3) (List.replicate m 0#8).length c (fun _ => 0#8) (List.replicate m 0#8) → St B w0 (⟨some b3, 0, c, fun q => VU .u8 ((fun _ => 0#8 : Nat → Byte) q), true⟩ :: ⟨some b, 0, len, f, false⟩ :: L) w' → Plan P n K l O (upd (upd (upd e d (.slice (some ⟨b, 0, none⟩) len len)) d3 (.slice (some ⟨b3, 0, none⟩) (List.replicate m 0#8).length c)) d2 (.slice (some ⟨b, 0, none⟩) len len)) w') :
    Plan P n K (⟨i, false, ⟨some d, .buildSlice t len parts, ty, pos, aft, gd⟩, g⟩ :: ⟨i3, false, ⟨some d3, .makeSlice t3 x y, ty3, pos3, aft3, gd3⟩, g3⟩ :: ⟨i2, false, ⟨some d2, .convert t t (.tmp d), ty2, pos2, aft2, gd2⟩, g2⟩ :: l) O e w := by
  have hr : (execOp (ev n e) ⟨some d, .buildSlice t len parts, ty, pos, aft, gd⟩).run P w = .ok (.value (.slice (some ⟨w.heap.size, 0, none⟩) len len)) (w.alloc (.cells (catL [(len, f)]).toArray el)) := run_v (by
    have hmap : (parts.map fun (i, x) => (i, ev n e x)).toList = vs := by rw [← hv]; simp
    have hf' := fillL_spec _ _ _ hf
    have hrange : ((Array.range (len * 1)).map (z.cells[· % z.cells.size]!)) = ((List.range (len * 1)).map fun i => z.cells[i % z.cells.size]!).toArray := by
      apply Array.ext'; simp
    simp only [Instr.buildSlice, Sem.run_bind, run_underlying hu w, Result.andThen, szT_spec hs, if_neg (show ¬ len * 1 > 2 ^ 24 by omega), Sem.run_pure, if_neg (show ¬ len * 1 = 0 by omega), run_zeroValue hz, hmap, hrange, hf', newRow, newObj]
    rfl)
  refine Plan.eff hg ?_
  rw [hr]
  have hst1 := hst.allocRo len f el (0, 0)
  refine .inl ⟨PIn.keep (hO.app [⟨some w.heap.size, 0, len, f, false⟩] rfl) hst1, ?_⟩
  rw [show updO e (some d) (.slice (some ⟨w.heap.size, 0, none⟩) len len) = upd e d (.slice (some ⟨w.heap.size, 0, none⟩) len len) from rfl]
  obtain ⟨el3, inf, hu3, hi3, hs3, hby, hz3⟩ := elB_of he3
  have hsz : (w.alloc (.cells (catL [(len, f)]).toArray el)).heap.size = w.heap.size + 1 := by rw [World.size_alloc]
  have hr3 := run_make (P := P) (w.alloc (.cells (catL [(len, f)]).toArray el)) t3 el3 inf _ hu3 hi3 hz3 k k' m c (Int.natCast_nonneg _) (by omega) (by rw [hby]; omega) (by omega)
  have hm : madeCells (VU .u8 0#8 : Value).cells ((c : Int).toNat * inf.size) = (catL [(c, fun _ => VU .u8 0#8)]).toArray := by
    rw [hs3, Int.toNat_natCast, Nat.mul_one, catL_one]
    show madeCells #[VU .u8 0#8] c = _
    unfold madeCells
    apply Array.ext'
    apply List.ext_getElem?
    intro q
    by_cases hq : q < c
    · simp [hq, Nat.mod_one]
    · simp [hq]
  rw [hm, hsz] at hr3
  have hr3' : (execOp (ev n (upd e d (.slice (some ⟨w.heap.size, 0, none⟩) len len))) ⟨some d3, .makeSlice t3 x y, ty3, pos3, aft3, gd3⟩).run P (w.alloc (.cells (catL [(len, f)]).toArray el)) = .ok (.value (.slice (some ⟨w.heap.size + 1, 0, none⟩) (List.replicate m 0#8).length c)) ((w.alloc (.cells (catL [(len, f)]).toArray el)).alloc (.cells (catL [(c, fun _ => VU .u8 0#8)]).toArray el3)) := run_v (by
    rw [hx, hy, hr3]; simp)
  refine Plan.eff (hg3 _) ?_
  rw [hr3']
  have hst2 := hst1.alloc [(c, fun _ => VU .u8 0#8)] el3
  rw [hsz] at hst2
  refine .inl ⟨PIn.keep ((hO.app [⟨some w.heap.size, 0, len, f, false⟩] rfl).app _ rfl) hst2, ?_⟩
  refine Plan.eff (hg2 _ _) ?_
  have hr2 : (execOp (ev n (updO (upd e d (.slice (some ⟨w.heap.size, 0, none⟩) len len)) (some d3) (.slice (some ⟨w.heap.size + 1, 0, none⟩) (List.replicate m 0#8).length c))) ⟨some d2, .convert t t (.tmp d), ty2, pos2, aft2, gd2⟩).run P ((w.alloc (.cells (catL [(len, f)]).toArray el)).alloc (.cells (catL [(c, fun _ => VU .u8 0#8)]).toArray el3)) = .ok (.value (.slice (some ⟨w.heap.size, 0, none⟩) len len)) ((w.alloc (.cells (catL [(len, f)]).toArray el ((catL [(len, f)]).toArray.size, (catL [(len, f)]).toArray.size + 1))).alloc (.cells (catL [(c, fun _ => VU .u8 0#8)]).toArray el3)) := run_v (by
    rw [show ev n (updO (upd e d (.slice (some ⟨w.heap.size, 0, none⟩) len len)) (some d3) (.slice (some ⟨w.heap.size + 1, 0, none⟩) (List.replicate m 0#8).length c)) (.tmp d) = _ from hx2 _ _]
    exact run_convert_old w t el _ _ len len hu he)
  rw [hr2]
  have hst3 := (hst.allocRo len f el ((catL [(len, f)]).toArray.size, (catL [(len, f)]).toArray.size + 1)).alloc [(c, fun _ => VU .u8 0#8)] el3
  rw [World.size_alloc] at hst3
  refine .inl ⟨PIn.keep ((hO.app [⟨some w.heap.size, 0, len, f, false⟩] rfl).app _ rfl) hst3, h _ _ _ hst.base (Nat.le_succ_of_le hst.base) ?_ hst3⟩
  refine ⟨.inr ⟨_, rfl, rfl⟩, by rw [List.length_replicate]; exact hlc, rfl, fun q hq => ?_⟩
  unfold lit
  rw [List.getD_eq_getElem?_getD, List.getElem?_replicate]
  split <;> rfl
/-! the same, op by op: the block is laid; marked later -/
theorem heap_freeze {w : World} {b : Nat} {C : Array Value} {el : TypeId} (hk : w.heap[b]? = some (.cells C el (0, 0))) (k b' : Nat) : (w.freeze ⟨b, k, none⟩ 1).heap[b']? = if b = b' then some (.cells C el (k, k + 1)) else w.heap[b']? := by
  unfold World.freeze
  rw [if_neg (by decide)]
  simp only [Array.getElem?_modify]
  by_cases h : b = b'
  · subst h; rw [if_pos rfl, if_pos rfl, hk]; rfl
  · rw [if_neg h, if_neg h]
theorem size_freeze (w : World) (b k : Nat) : (w.freeze ⟨b, k, none⟩ 1).heap.size = w.heap.size := by
  unfold World.freeze; rw [if_neg (by decide)]; simp
theorem cell_freeze {w : World} {b : Nat} {C : Array Value} {el : TypeId} (hk : w.heap[b]? = some (.cells C el (0, 0))) (k : Nat) (a : Addr) : (w.freeze ⟨b, k, none⟩ 1).cell? a = w.cell? a := by
  unfold World.cell?
  rw [heap_freeze hk]
  by_cases h : b = a.block
  · rw [if_pos h, ← h, hk]
  · rw [if_neg h]
theorem St.freezeC (h : St B w0 L w) {b : Nat} {C : Array Value} {el : TypeId} (hB : B ≤ b) (hk : w.heap[b]? = some (.cells C el (0, 0))) : St B w0 L (w.freeze ⟨b, C.size, none⟩ 1) := by
  refine ⟨h.below.trans ⟨?_, ?_, ?_, ?_, fun k hk' => ?_⟩, by rw [size_freeze]; exact h.base, fun r hr j hj => ?_, fun r hr hw j hj => ?_, h.apart⟩
  · unfold World.freeze; rw [if_neg (by decide)]
  · unfold World.freeze; rw [if_neg (by decide)]
  · unfold World.freeze; rw [if_neg (by decide)]
  · rw [size_freeze]; exact Nat.le_refl _
  · rw [heap_freeze hk, if_neg (by omega)]
  · obtain ⟨b', hp, hc⟩ := h.at_ r hr j hj
    exact ⟨b', hp, by rw [cell_freeze hk]; exact hc⟩
  · obtain ⟨b', hp, hc⟩ := h.at_ r hr j hj
    obtain ⟨b2, hp2, hB2, hf⟩ := h.free r hr hw j hj
    refine ⟨b2, hp2, hB2, ?_⟩
    obtain rfl : b' = b2 := by rw [hp] at hp2; exact Option.some.inj hp2
    unfold World.frozen? at hf ⊢
    rw [heap_freeze hk]
    by_cases hb : b = b'
    · subst hb
      rw [if_pos rfl]
      unfold World.cell? at hc
      dsimp only at hc
      rw [hk] at hc
      have hlt : r.off + j < C.size := by
        have := (Array.getElem?_eq_some_iff.1 (by simpa using hc)).1
        exact this
      simp; omega
    · rw [if_neg hb]; exact hf
theorem run_convert_at {P : Program} {w : World} {b : Nat} {t e : TypeId} {C : Array Value} (hk : w.heap[b]? = some (.cells C e (0, 0))) (n c : Nat) (ht : P.underlying t = some (.slice e)) (he : P.underlying e = some (.int .u8)) :
    (convert t t (.slice (some ⟨b, 0, none⟩) n c)).run P w = .ok (.slice (some ⟨b, 0, none⟩) n c) (w.freeze ⟨b, C.size, none⟩ 1) := by
  have hsh : w.shape? b = some (e, C.size) := by unfold World.shape?; rw [hk]
  simp [convert, run_underlying ht, run_underlying he, markStringish, hsh]
theorem Plan.constBuild (hO : PIn O L) (hst : St B w0 L w) {t el : TypeId} {len : Nat} {parts : Array (Nat × Operand)} {f : Nat → Value} {vs : List (Nat × Value)} {z : Value} (hu : P.underlying t = some (.slice el)) (hs : szT P el 1 = true) (hz : (P.info? el).bind (·.zero) = some z)
    (hl : 0 < len * 1) (hl2 : len * 1 ≤ 16777216) (hg : wantedE n e g = true)
    (hv : parts.toList.map (fun p => (p.1, ev n e p.2)) = vs) (hf : fillL (fun i => some (i * 1, 1)) ((List.range (len * 1)).map fun i => z.cells[i % z.cells.size]!) vs = some (catL [(len, f)]))
    (h : ∀ b w', B ≤ b → w'.heap[b]? = some (.cells (catL [(len, f)]).toArray el (0, 0)) → St B w0 (⟨some b, 0, len, f, false⟩ :: L) w' → Plan P n K l O (upd e d (.slice (some ⟨b, 0, none⟩) len len)) w') :
    Plan P n K (⟨i, false, ⟨some d, .buildSlice t len parts, ty, pos, aft, gd⟩, g⟩ :: l) O e w := by
  have hr : (execOp (ev n e) ⟨some d, .buildSlice t len parts, ty, pos, aft, gd⟩).run P w = .ok (.value (.slice (some ⟨w.heap.size, 0, none⟩) len len)) (w.alloc (.cells (catL [(len, f)]).toArray el)) := run_v (by
    have hmap : (parts.map fun (i, x) => (i, ev n e x)).toList = vs := by rw [← hv]; simp
    have hf' := fillL_spec _ _ _ hf
    have hrange : ((Array.range (len * 1)).map (z.cells[· % z.cells.size]!)) = ((List.range (len * 1)).map fun i => z.cells[i % z.cells.size]!).toArray := by
      apply Array.ext'; simp
    simp only [Instr.buildSlice, Sem.run_bind, run_underlying hu w, Result.andThen, szT_spec hs, if_neg (show ¬ len * 1 > 2 ^ 24 by omega), Sem.run_pure, if_neg (show ¬ len * 1 = 0 by omega), run_zeroValue hz, hmap, hrange, hf', newRow, newObj]
    rfl)
  refine Plan.eff hg ?_
  rw [hr]
  have hst1 := hst.allocRo len f el (0, 0)
  exact .inl ⟨PIn.keep (hO.app [⟨some w.heap.size, 0, len, f, false⟩] rfl) hst1, h _ _ hst.base (heap_alloc_new _ _) hst1⟩
theorem Plan.constConv (hO : PIn O L) (hst : St B w0 L w) {b len : Nat} {t el : TypeId} {x : Operand} {C : Array Value} (hB : B ≤ b) (hk : w.heap[b]? = some (.cells C el (0, 0))) (hu : P.underlying t = some (.slice el)) (he : P.underlying el = some (.int .u8)) (hg : wantedE n e g = true) (hx : ev n e x = .slice (some ⟨b, 0, none⟩) len len)
    (h : ∀ w', St B w0 L w' → Plan P n K l O (upd e d (.slice (some ⟨b, 0, none⟩) len len)) w') :
    Plan P n K (⟨i, false, ⟨some d, .convert t t x, ty, pos, aft, gd⟩, g⟩ :: l) O e w := by
  refine Plan.eff hg ?_
  have hr : (execOp (ev n e) ⟨some d, .convert t t x, ty, pos, aft, gd⟩).run P w = .ok (.value (.slice (some ⟨b, 0, none⟩) len len)) (w.freeze ⟨b, C.size, none⟩ 1) := run_v (by
    rw [hx]; exact run_convert_at hk len len hu he)
  rw [hr]
  have hst1 := hst.freezeC hB hk
  exact .inl ⟨PIn.keep hO hst1, h _ hst1⟩
theorem Plan.makeK (hO : PIn O L) (hst : St B w0 L w) {t3 : TypeId} {x y : Operand} {m c : Nat} {k k' : IntKind} (he3 : elD P t3 = some (1, 1, some (VU .u8 0#8))) (hg : wantedE n e g = true) (hx : ev n e x = .int k (m : Int)) (hy : ev n e y = .int k' (c : Int)) (hlc : m ≤ c) (hc : c ≤ 281474976710656)
    (h : ∀ (b : Nat) (w' : World), B ≤ b → (∀ (q : Nat) (v : Obj), w.heap[q]? = some v → w'.heap[q]? = some v) → Ow (some ⟨b, 0, none⟩) (some b) (List.replicate m 0#8).length c (fun _ => 0#8) (List.replicate m 0#8) → St B w0 (⟨some b, 0, c, fun q => VU .u8 ((fun _ => 0#8 : Nat → Byte) q), true⟩ :: L) w' → Plan P n K l O (updO e (some d) (.slice (some ⟨b, 0, none⟩) (List.replicate m 0#8).length c)) w') :
    Plan P n K (⟨i, false, ⟨some d, .makeSlice t3 x y, ty, pos, aft, gd⟩, g⟩ :: l) O e w := by
  obtain ⟨el3, inf, hu3, hi3, hs3, hby, hz3⟩ := elB_of he3
  have hr3 := run_make (P := P) w t3 el3 inf _ hu3 hi3 hz3 k k' m c (Int.natCast_nonneg _) (by omega) (by rw [hby]; omega) (by omega)
  have hm : madeCells (VU .u8 0#8 : Value).cells ((c : Int).toNat * inf.size) = (catL [(c, fun _ => VU .u8 0#8)]).toArray := by
    rw [hs3, Int.toNat_natCast, Nat.mul_one, catL_one]
    show madeCells #[VU .u8 0#8] c = _
    unfold madeCells
    apply Array.ext'
    apply List.ext_getElem?
    intro q
    by_cases hq : q < c
    · simp [hq, Nat.mod_one]
    · simp [hq]
  rw [hm] at hr3
  have hr3' : (execOp (ev n e) ⟨some d, .makeSlice t3 x y, ty, pos, aft, gd⟩).run P w = .ok (.value (.slice (some ⟨w.heap.size, 0, none⟩) (List.replicate m 0#8).length c)) (w.alloc (.cells (catL [(c, fun _ => VU .u8 0#8)]).toArray el3)) := run_v (by
    rw [hx, hy, hr3]; simp)
  refine Plan.eff hg ?_
  rw [hr3']
  have hst2 := hst.alloc [(c, fun _ => VU .u8 0#8)] el3
  refine .inl ⟨PIn.keep (hO.app _ rfl) hst2, h _ _ hst.base (fun q v hv => ?_) ?_ hst2⟩
  · have hq : q < w.heap.size := by
      rcases Nat.lt_or_ge q w.heap.size with hq | hq
      · exact hq
      · rw [Array.getElem?_eq_none hq] at hv; cases hv
    rw [((Below.refl w.heap.size w).alloc (Nat.le_refl _) _).block q hq]; exact hv
  · refine ⟨.inr ⟨_, rfl, rfl⟩, by rw [List.length_replicate]; exact hlc, rfl, fun q hq => ?_⟩
    unfold lit
    rw [List.getD_eq_getElem?_getD, List.getElem?_replicate]
    split <;> rfl
end step3
end Go.LW

/-
  ENGINE X, PART 7 (own work): floating allocs. Where allocs that wait for nothing may come up anywhere beside a line of other operations, the line is walked once: for every memory beside, and every value of the allocs' slots.
-/
namespace Go.LW
set_option linter.unusedSimpArgs false
set_option linter.unusedVariables false
set_option linter.unusedSectionVars false
open Go Go.RowKit

/-- a floating alloc: its number, slot, type, parts -/
structure FA where
  i : Nat
  d : Nat
  T : TypeId
  ps : List (Nat × (Nat → Value))

theorem tmod_bd (a : Int) {c : Int} (hc : 0 < c) : -c < a.tmod c ∧ a.tmod c < c := by
  rcases Int.le_total 0 a with h | h
  · rw [Int.tmod_eq_emod_of_nonneg h]
    have h1 := Int.emod_nonneg a (show c ≠ 0 by omega)
    have h2 := Int.emod_lt_of_pos a hc
    omega
  · have e : a.tmod c = -((-a).tmod c) := by rw [Int.neg_tmod, Int.neg_neg]
    rw [e, Int.tmod_eq_emod_of_nonneg (by omega)]
    have h1 := Int.emod_nonneg (-a) (show c ≠ 0 by omega)
    have h2 := Int.emod_lt_of_pos (-a) hc
    omega
def ov (ds : List Nat) (z e : Env) : Env := fun i => cond (ds.any (Nat.beq i)) (z i) (e i)
theorem ov_in {ds : List Nat} {z e : Env} {i : Nat} (h : i ∈ ds) : ov ds z e i = z i := by
  unfold ov
  rw [show ds.any (Nat.beq i) = true from List.any_eq_true.2 ⟨i, h, Nat.beq_refl i⟩]
  rfl
theorem ov_out {ds : List Nat} {z e : Env} {i : Nat} (h : ¬ i ∈ ds) : ov ds z e i = e i := by
  unfold ov
  rw [show ds.any (Nat.beq i) = false from by
    rw [List.any_eq_false]
    intro x hx hb
    rw [Nat.eq_of_beq_eq_true hb] at h
    exact h hx]
  rfl
theorem ov_self {ds : List Nat} {z e : Env} (h : ∀ i, ¬ i ∈ ds → z i = e i) : ov ds z e = z := by
  funext i
  by_cases hi : i ∈ ds
  · exact ov_in hi
  · rw [ov_out hi, h i hi]

theorem St.perm {B : Nat} {w0 w : World} {L L' : List Rg} (h : St B w0 L w) (hp : L.Perm L') : St B w0 L' w :=
  ⟨h.below, h.base, fun r hr => h.at_ r (hp.mem_iff.2 hr), fun r hr => h.free r (hp.mem_iff.2 hr), (hp.pairwise_iff (fun h => Rg.apart.symm h)).1 h.apart⟩

section
variable {P : Program} {n : Nat} {ops : Array Oper} {Q : Exit → Act → World → Prop} {B : Nat} {w0 : World}

/-- behind all allocs -/
def KE (G : Env → World → Prop) (B : Nat) (w0 : World) (F L : List Rg) : List FA → List Rg → Env → Prop
  | [], R, e => ∀ w, St B w0 (F ++ (R ++ L)) w → G e w
  | a :: A, R, e => ∀ b, KE G B w0 F L A (R ++ rngs b 0 a.ps) (upd e a.d (.pointer (some ⟨b, 0, none⟩)))
/-- the segments, each an effect and what is still behind it -/
def PX (P : Program) (n : Nat) (ops : Array Oper) (B : Nat) (w0 : World) (L : List Rg) (ds : List Nat) (Z : List Rg → Pend → Env → Prop) : List (List (Nat × Bool)) → List Rg → Pend → Env → Prop
  | [], F, O, e => Z F O e
  | σ :: segs, F, O, e => ∀ C z w, St B w0 (F ++ (C ++ L)) w →
      Plan P n (fun O' e' w' => ∃ F', St B w0 (F' ++ (C ++ L)) w' ∧ PIn O' (F' ++ L) ∧ PX P n ops B w0 L ds Z segs F' O' e') (items ops σ) O (ov ds z e) w

theorem KE.all {G : Env → World → Prop} {F L : List Rg} (bs : Nat → Nat) : ∀ (A : List FA) (R : List Rg) (e : Env), KE G B w0 F L A R e →
    ∀ w, St B w0 (F ++ (R ++ A.flatMap (fun a => rngs (bs a.d) 0 a.ps) ++ L)) w → G (A.foldl (fun e a => upd e a.d (.pointer (some ⟨bs a.d, 0, none⟩))) e) w
  | [], R, e, h, w, hst => h w (by simpa using hst)
  | a :: A, R, e, h, w, hst => by
    refine KE.all bs A _ _ (h (bs a.d)) w ?_
    simpa [List.append_assoc] using hst
theorem foldl_env (bs : Nat → Nat) (i : Nat) : ∀ (A : List FA) (e : Env), (A.foldl (fun e a => upd e a.d (.pointer (some ⟨bs a.d, 0, none⟩))) e) i = if i ∈ A.map (·.d) then .pointer (some ⟨bs i, 0, none⟩) else e i
  | [], e => by simp
  | a :: A, e => by
    rw [List.foldl_cons, foldl_env bs i A, List.map_cons]
    by_cases h : i ∈ A.map (·.d)
    · rw [if_pos h, if_pos (List.mem_cons_of_mem _ h)]
    · rw [if_neg h, upd_at]
      by_cases h2 : i = a.d
      · subst h2; rw [if_pos rfl, if_pos List.mem_cons_self]
      · rw [if_neg h2, if_neg (by rw [List.mem_cons]; exact fun h3 => h3.elim h2 h)]

theorem PIn.mid {O : Pend} {F L : List Rg} (h : PIn O (F ++ L)) {w : World} {C : List Rg} (hst : St B w0 (F ++ (C ++ L)) w) : ∀ p ∈ O, p.2 w := by
  have hs : St B w0 (F ++ L) w := hst.sub (List.Sublist.append (List.Sublist.refl F) (List.sublist_append_right C L))
  intro p hp
  clear hst
  generalize F ++ L = M at h hs
  induction h with
  | nil => cases hp
  | cons i h t ih =>
    rcases List.mem_cons.1 hp with rfl | hp
    · exact hs.mem h
    · exact ih hp hs
  | tru t ih =>
    rcases List.mem_cons.1 hp with rfl | hp
    · trivial
    · exact ih hp hs
  | parts h t ih =>
    rcases List.mem_cons.1 hp with rfl | hp
    · exact h.cells hs
    · exact ih hp hs
theorem KE.mono {G G' : Env → World → Prop} {F L : List Rg} (h : ∀ e w, G e w → G' e w) : ∀ (A : List FA) (R : List Rg) (e : Env), KE G B w0 F L A R e → KE G' B w0 F L A R e
  | [], _, _, hk => fun w hst => h _ _ (hk w hst)
  | _ :: A, _, _, hk => fun b => KE.mono h A _ _ (hk b)
theorem PX.mono {L : List Rg} {ds : List Nat} {Z Z' : List Rg → Pend → Env → Prop} (h : ∀ F O e, Z F O e → Z' F O e) : ∀ (segs : List (List (Nat × Bool))) (F : List Rg) (O : Pend) (e : Env), PX P n ops B w0 L ds Z segs F O e → PX P n ops B w0 L ds Z' segs F O e
  | [], _, _, _, hk => h _ _ _ hk
  | _ :: segs, _, _, _, hk => fun C z w hst => Plan.mono (fun _ _ _ ⟨F', h1, h2, h3⟩ => ⟨F', h1, h2, PX.mono h segs _ _ _ h3⟩) _ _ _ _ (hk C z w hst)

/-- A plan turns no slot but its own. -/
theorem Plan.env {ds : List Nat} : ∀ (l : List It) {K : Pend → Env → World → Prop} (O : Pend) (e : Env) (w : World), (∀ it ∈ l, ∀ d, it.o.dst = some d → ¬ d ∈ ds) → Plan P n K l O e w →
    Plan P n (fun O' e' w' => K O' e' w' ∧ ∀ i ∈ ds, e' i = e i) l O e w
  | [], K, O, e, w, _, h => ⟨h, fun _ _ => rfl⟩
  | it :: l, K, O, e, w, hd, h => by
    have hl : ∀ it ∈ l, ∀ d, it.o.dst = some d → ¬ d ∈ ds := fun q hq => hd q (List.mem_cons_of_mem _ hq)
    have key : ∀ v, ∀ i ∈ ds, updO e it.o.dst v i = e i := fun v i hi => by
      unfold updO
      cases hx : it.o.dst with
      | none => rfl
      | some d =>
        refine upd_ne _ _ _ _ ?_
        rintro rfl
        exact hd it List.mem_cons_self _ hx hi
    have go : ∀ v O w, Plan P n K l O (updO e it.o.dst v) w → Plan P n (fun O' e' w' => K O' e' w' ∧ ∀ i ∈ ds, e' i = e i) l O (updO e it.o.dst v) w := fun v O w hp =>
      Plan.mono (fun O e' w hk => ⟨hk.1, fun i hi => by rw [hk.2 i hi, key v i hi]⟩) _ _ _ _ (Plan.env l O _ w hl hp)
    unfold Plan at h ⊢
    split
    · rename_i hw
      rw [if_pos hw] at h
      split
      · rename_i hst
        rw [if_pos hst] at h
        obtain ⟨v, ⟨h3, h4⟩ | ⟨S, h2, h3, h4⟩⟩ := h
        · exact ⟨v, .inl ⟨h3, go _ _ _ h4⟩⟩
        · exact ⟨v, .inr ⟨S, h2, h3, go _ _ _ h4⟩⟩
      · rename_i hst
        rw [if_neg hst] at h
        exact uponE_mono (fun v w' hk => hk.imp (fun ⟨a, b⟩ => ⟨a, go _ _ _ b⟩) (Or.imp (fun ⟨a, b⟩ => ⟨a, go _ _ _ b⟩) (fun ⟨a, b⟩ => ⟨a, go _ _ _ b⟩))) h
    · rename_i hw
      rw [if_neg hw] at h
      exact go _ _ _ h

/-- all ways to take one out -/
def picks {α : Type} : List α → List (α × List α)
  | [] => []
  | a :: l => (a, l) :: (picks l).map fun p => (p.1, a :: p.2)
theorem picks_perm {α : Type} {a : α} {r : List α} : ∀ {l : List α}, (a, r) ∈ picks l → l.Perm (a :: r)
  | [], h => by cases h
  | x :: l, h => by
    rcases List.mem_cons.1 h with h | h
    · cases h; exact List.Perm.refl _
    · obtain ⟨⟨b, r'⟩, hb, he⟩ := List.mem_map.1 h
      cases he
      exact ((picks_perm hb).cons x).trans (List.Perm.swap _ _ _)
theorem picks_of {α : Type} {a : α} : ∀ {l : List α}, a ∈ l → ∃ r, (a, r) ∈ picks l
  | x :: l, h => by
    by_cases hx : a ∈ l
    · obtain ⟨r, hr⟩ := picks_of hx
      exact ⟨x :: r, List.mem_cons_of_mem _ (List.mem_map.2 ⟨_, hr, rfl⟩)⟩
    · rcases List.mem_cons.1 h with rfl | h
      · exact ⟨l, List.mem_cons_self⟩
      · exact absurd h hx

/-- The orders fit: only the next effect of the line, or a float, may come up. -/
def okF (ops : Array Oper) (σ2 : List (Nat × Bool)) : Nat → List Nat → List (List (Nat × Bool)) → Array Bool → Bool
  | 0, _, _, _ => false
  | f + 1, A, segs, l =>
    match segs with
    | [] => match A with
      | [] => (match planP ops σ2 l with
        | some l' => Region.ready .any ops l' == []
        | none => false)
      | _ => !(Region.ready .any ops l).isEmpty && (Region.ready .any ops l).all (fun j => A.contains j) && (picks A).all (fun p => okF ops σ2 f p.2 [] (l.setIfInBounds p.1 true))
    | ((i, false) :: st) :: segs' => !(Region.ready .any ops l).isEmpty && (Region.ready .any ops l).all (fun j => (i :: A).contains j) && (picks A).all (fun p => okF ops σ2 f p.2 segs (l.setIfInBounds p.1 true)) &&
      (match planP ops st (l.setIfInBounds i true) with
        | some l' => okF ops σ2 f A segs' l'
        | none => false)
    | _ => false
/-! the same check, each set of floats once -/
def marks (l : Array Bool) (xs : List Nat) : Array Bool := xs.foldl (fun l i => l.setIfInBounds i true) l
theorem set_comm (l : Array Bool) (i j : Nat) : (l.setIfInBounds i true).setIfInBounds j true = (l.setIfInBounds j true).setIfInBounds i true := by
  by_cases h : i = j
  · subst h; rfl
  · exact Array.setIfInBounds_comm _ _ h
theorem marks_perm {xs ys : List Nat} (h : xs.Perm ys) : ∀ l, marks l xs = marks l ys := by
  induction h with
  | nil => intro l; rfl
  | cons x h ih => intro l; exact ih _
  | swap x y l0 => intro l; show marks ((l.setIfInBounds y true).setIfInBounds x true) l0 = marks ((l.setIfInBounds x true).setIfInBounds y true) l0; rw [set_comm]
  | trans h1 h2 ih1 ih2 => intro l; rw [ih1, ih2]
theorem marks_app (l : Array Bool) (xs ys : List Nat) : marks l (xs ++ ys) = marks (marks l xs) ys := by unfold marks; rw [List.foldl_append]
theorem planP_marks (ops : Array Oper) : ∀ (σ : List (Nat × Bool)) (l l' : Array Bool), planP ops σ l = some l' → l' = marks l (σ.map (·.1))
  | [], l, l', h => by simp only [planP, Option.some.injEq] at h; exact h.symm
  | (i, true) :: σ, l, l', h => by
    simp only [planP] at h
    split at h
    · exact planP_marks ops σ _ _ h
    · cases h
  | (i, false) :: σ, l, l', h => by
    simp only [planP] at h
    split at h
    · exact planP_marks ops σ _ _ h
    · cases h
def splits : List Nat → List (List Nat × List Nat)
  | [] => [([], [])]
  | a :: l => (splits l).map (fun p => (a :: p.1, p.2)) ++ (splits l).map (fun p => (p.1, a :: p.2))
theorem splits_of : ∀ {A D A' : List Nat}, (D ++ A').Perm A → ∃ p ∈ splits A, p.1.Perm D ∧ p.2.Perm A'
  | [], D, A', h => by
    have := h.eq_nil
    rw [List.append_eq_nil_iff] at this
    obtain ⟨rfl, rfl⟩ := this
    exact ⟨([], []), List.mem_cons_self, List.Perm.refl _, List.Perm.refl _⟩
  | a :: A, D, A', h => by
    have ha : a ∈ D ++ A' := h.mem_iff.2 List.mem_cons_self
    rcases List.mem_append.1 ha with ha | ha
    · obtain ⟨D1, hD⟩ : ∃ D1, D.Perm (a :: D1) := ⟨D.erase a, List.perm_cons_erase ha⟩
      have h2 : (D1 ++ A').Perm A := List.Perm.cons_inv (a := a) ((hD.symm.append_right A').trans h)
      obtain ⟨p, hp, h3, h4⟩ := splits_of h2
      exact ⟨(a :: p.1, p.2), List.mem_append_left _ (List.mem_map.2 ⟨p, hp, rfl⟩), (h3.cons a).trans hD.symm, h4⟩
    · obtain ⟨D1, hD⟩ : ∃ D1, A'.Perm (a :: D1) := ⟨A'.erase a, List.perm_cons_erase ha⟩
      have h2 : (D ++ D1).Perm A := List.Perm.cons_inv (a := a) (((List.perm_middle.symm).trans (hD.symm.append_left D)).trans h)
      obtain ⟨p, hp, h3, h4⟩ := splits_of h2
      exact ⟨(p.1, a :: p.2), List.mem_append_right _ (List.mem_map.2 ⟨p, hp, rfl⟩), h3, (h4.cons a).trans hD.symm⟩
def okS (ops : Array Oper) (σ2 : List (Nat × Bool)) (A : List Nat) : List (List (Nat × Bool)) → Array Bool → Bool
  | [], l => (splits A).all fun p => match p.2 with
    | [] => (match planP ops σ2 (marks l p.1) with
      | some l' => Region.ready .any ops l' == []
      | none => false)
    | _ => !(Region.ready .any ops (marks l p.1)).isEmpty && (Region.ready .any ops (marks l p.1)).all (fun j => p.2.contains j)
  | ((i, false) :: st) :: segs', l => ((splits A).all fun p => !(Region.ready .any ops (marks l p.1)).isEmpty && (Region.ready .any ops (marks l p.1)).all (fun j => (i :: p.2).contains j) && (planP ops st (marks (l.setIfInBounds i true) p.1)).isSome) &&
    okS ops σ2 A segs' (marks (l.setIfInBounds i true) (st.map (·.1)))
  | _, _ => false
theorem all_contains {A B l : List Nat} (h : A.Perm B) (ha : (l.all fun j => A.contains j) = true) : (l.all fun j => B.contains j) = true := by
  rw [List.all_eq_true] at ha ⊢
  intro j hj
  have := ha j hj
  simp only [List.contains_iff_mem] at this ⊢
  exact h.mem_iff.1 this
theorem marks_set (l : Array Bool) (D : List Nat) (i : Nat) : (marks l D).setIfInBounds i true = marks (l.setIfInBounds i true) D := by
  have h1 : (marks l D).setIfInBounds i true = marks l (D ++ [i]) := (marks_app l D [i]).symm
  rw [h1, marks_perm (List.perm_append_comm (l₁ := D) (l₂ := [i]))]; rfl
theorem okS_okF {ops : Array Oper} {σ2 : List (Nat × Bool)} {A : List Nat} : ∀ (segs : List (List (Nat × Bool))) (l : Array Bool), okS ops σ2 A segs l = true →
    ∀ (f : Nat) (D A' : List Nat), (D ++ A').Perm A → A'.length + segs.length < f → okF ops σ2 f A' segs (marks l D) = true
  | [], l, h => by
    intro f
    induction f with
    | zero => intro D A' _ hf; exact absurd hf (Nat.not_lt_zero _)
    | succ f ih =>
      intro D A' hp hf
      unfold okS at h
      have key := fun (p : List Nat × List Nat) (hp : p ∈ splits A) => List.all_eq_true.1 h p hp
      obtain ⟨p, hm, h1, h2⟩ := splits_of hp
      have hk := key p hm
      have e1 : marks l p.1 = marks l D := marks_perm h1 l
      cases A' with
      | nil =>
        have h3 : p.2 = [] := h2.eq_nil
        rw [h3, e1] at hk
        unfold okF
        exact hk
      | cons a A'' =>
        have h3 : p.2 ≠ [] := fun h0 => by rw [h0] at h2; exact absurd h2.symm.eq_nil (by simp)
        have hk2 : (!(Region.ready .any ops (marks l p.1)).isEmpty && (Region.ready .any ops (marks l p.1)).all (fun j => p.2.contains j)) = true := by
          revert hk
          split
          · rename_i h4; exact absurd h4 h3
          · exact id
        rw [e1, Bool.and_eq_true] at hk2
        unfold okF
        simp only [Bool.and_eq_true]
        refine ⟨⟨hk2.1, all_contains h2 hk2.2⟩, ?_⟩
        rw [List.all_eq_true]
        rintro ⟨b, r⟩ hb
        have hpr := picks_perm hb
        have h5 : (marks l D).setIfInBounds b true = marks l (D ++ [b]) := (marks_app l D [b]).symm
        show okF ops σ2 f r [] ((marks l D).setIfInBounds b true) = true
        rw [h5]
        refine ih (D ++ [b]) r ?_ ?_
        · rw [List.append_assoc]
          exact ((hpr.symm).append_left D).trans hp
        · have := hpr.length_eq
          simp only [List.length_cons, List.length_nil] at this hf ⊢
          omega
  | ((i, false) :: st) :: segs', l, h => by
    unfold okS at h
    rw [Bool.and_eq_true] at h
    have hnx := okS_okF segs' _ h.2
    have key := fun (p : List Nat × List Nat) (hp : p ∈ splits A) => List.all_eq_true.1 h.1 p hp
    intro f
    induction f with
    | zero => intro D A' _ hf; exact absurd hf (Nat.not_lt_zero _)
    | succ f ih =>
      intro D A' hp hf
      obtain ⟨p, hm, h1, h2⟩ := splits_of hp
      have hk := key p hm
      have e1 : marks l p.1 = marks l D := marks_perm h1 l
      have e2 : marks (l.setIfInBounds i true) p.1 = marks (l.setIfInBounds i true) D := marks_perm h1 _
      simp only [Bool.and_eq_true] at hk
      rw [e1, e2] at hk
      unfold okF
      simp only [Bool.and_eq_true]
      refine ⟨⟨⟨hk.1.1, all_contains (h2.cons i) hk.1.2⟩, ?_⟩, ?_⟩
      · rw [List.all_eq_true]
        rintro ⟨b, r⟩ hb
        have hpr := picks_perm hb
        have h5 : (marks l D).setIfInBounds b true = marks l (D ++ [b]) := (marks_app l D [b]).symm
        show okF ops σ2 f r _ ((marks l D).setIfInBounds b true) = true
        rw [h5]
        refine ih (D ++ [b]) r ?_ ?_
        · rw [List.append_assoc]
          exact ((hpr.symm).append_left D).trans hp
        · have := hpr.length_eq
          simp only [List.length_cons] at this hf ⊢
          omega
      · rw [marks_set]
        have h6 := hk.2
        split
        · rename_i l' h7
          have h8 := planP_marks ops _ _ _ h7
          rw [h8, ← marks_app, marks_perm (List.perm_append_comm (l₁ := D)), marks_app]
          exact hnx f D A' hp (by simp only [List.length_cons] at hf; omega)
        · rename_i h7
          rw [h7] at h6; cases h6
  | [] :: _, l, h => by simp [okS] at h
  | ((i, true) :: st) :: segs', l, h => by simp [okS] at h
def segLen (segs : List (List (Nat × Bool))) : Nat := (segs.map List.length).sum
/-- each float is what it is said to be -/
def isFA (P : Program) (ops : Array Oper) (a : FA) : Prop := (∃ ty pos aft, ops[a.i]? = some ⟨some a.d, .alloc a.T, ty, pos, aft, none⟩) ∧ zeroIs P a.T a.ps
def segsOut (ops : Array Oper) (ds : List Nat) (segs : List (List (Nat × Bool))) : Bool := segs.all fun σ => σ.all fun p => match (ops.getD p.1 default).dst with | some d => !ds.contains d | none => true
theorem segsOut_spec {ds : List Nat} {σ : List (Nat × Bool)} (h : (σ.all fun p => match (ops.getD p.1 default).dst with | some d => !ds.contains d | none => true) = true) : ∀ it ∈ items ops σ, ∀ d, it.o.dst = some d → ¬ d ∈ ds := by
  intro it hit d hd
  obtain ⟨p, hp, rfl⟩ := List.mem_map.1 hit
  have := List.all_eq_true.1 h p hp
  simp only [] at hd
  rw [hd] at this
  simpa using this
theorem rest_nil {α : Type} {a : α} {r : List α} : ∀ {l : List α}, (a, r) ∈ picks l → l.length = r.length + 1 := fun h => by
  have := (picks_perm h).length_eq
  simpa using this
theorem map_picks {α β : Type} (f : α → β) {a : α} {r : List α} : ∀ {l : List α}, (a, r) ∈ picks l → (f a, r.map f) ∈ picks (l.map f)
  | x :: l, h => by
    rcases List.mem_cons.1 h with h | h
    · cases h; exact List.mem_cons_self
    · obtain ⟨⟨b, r'⟩, hb, he⟩ := List.mem_map.1 h
      cases he
      exact List.mem_cons_of_mem _ (List.mem_map.2 ⟨_, map_picks f hb, rfl⟩)

theorem fl_sound (hn : n ≤ 1000000) (hs : Region.noSelect ops = true) (hQ : ∀ c a w, ¬ Q (.panic c) a w) {L : List Rg} {σ2 : List (Nat × Bool)} {A : List FA} (hA : ∀ a ∈ A, isFA P ops a) (hnd : (A.map (·.d)).Nodup) :
    ∀ (f : Nat) (Done A' : List FA) (segs : List (List (Nat × Bool))) (l : Array Bool), okF ops σ2 f (A'.map (·.i)) segs l = true → segsOut ops (A.map (·.d)) segs = true → (Done ++ A').Perm A →
      ∀ (F C : List Rg) (O : Pend) (e ea : Env) (w : World) (bs : Nat → Nat), (∀ i, ¬ i ∈ A.map (·.d) → ea i = e i) → (∀ a ∈ Done, ea a.d = .pointer (some ⟨bs a.d, 0, none⟩)) → C.Perm (Done.flatMap fun a => rngs (bs a.d) 0 a.ps) →
        St B w0 (F ++ (C ++ L)) w → PIn O (F ++ L) →
        PX P n ops B w0 L (A.map (·.d)) (fun F O e => KE (fun e w => Plan P n (fun _ e w => Q .normal (act n e) w) (items ops σ2) O e w) B w0 F L A [] e) segs F O e →
        wpAnyO P ops Q O (A'.length + segLen segs + σ2.length) l (act n ea) w := by
  intro f
  induction f with
  | zero => intro Done A' segs l h; simp [okF] at h
  | succ f ih =>
    intro Done A' segs l hok hout hperm F C O e ea w bs hea hD hC hst hO hX
    have hOw : ∀ p ∈ O, p.2 w := hO.mid hst
    -- a float comes up
    have float : ∀ (a : FA) (r : List FA), (a, r) ∈ picks A' → okF ops σ2 f (r.map (·.i)) segs (l.setIfInBounds a.i true) = true →
        wpOp P ops Q a.i (fun a' w' => (∀ p ∈ O, waitsO (ops.getD a.i default) p.1 = false → p.2 w') ∧ wpAnyO P ops Q (O.filter fun p => !waitsO (ops.getD a.i default) p.1) (r.length + segLen segs + σ2.length) (l.setIfInBounds a.i true) a' w') (act n ea) w := by
      intro a r hr hok2
      have hp1 := picks_perm hr
      have haA : a ∈ A := hperm.mem_iff.1 (List.mem_append_right _ (hp1.mem_iff.2 List.mem_cons_self))
      obtain ⟨⟨ty, pos, aft, hop⟩, z, hz1, hz2⟩ := hA a haA
      unfold wpOp
      simp only [hop]
      rw [if_pos (show Region.wanted (⟨some a.d, .alloc a.T, ty, pos, aft, none⟩ : Oper) (yielded ops (act n ea).tmps) = true from rfl)]
      refine .inl ?_
      have hrun : (execOp (ev n ea) ⟨some a.d, .alloc a.T, ty, pos, aft, none⟩).run P w = .ok (.value (.pointer (some ⟨w.heap.size, 0, none⟩))) (w.alloc (.cells (catL a.ps).toArray a.T)) := run_v (by
        simp only [Instr.alloc, Sem.run_bind, run_zeroValue hz1, Result.andThen, newVar, newRow, newObj, hz2]
        rfl)
      have hst1 := hst.alloc a.ps a.T
      have hst2 : St B w0 (F ++ ((rngs w.heap.size 0 a.ps ++ C) ++ L)) (w.alloc (.cells (catL a.ps).toArray a.T)) := hst1.perm (by
        rw [List.append_assoc (rngs w.heap.size 0 a.ps) C L, ← List.append_assoc, ← List.append_assoc F]
        exact List.perm_append_comm.append_right _)
      refine upon_wp (fun v w' hk => hk) (K := fun v w' => (∀ p ∈ O, waitsO (ops.getD a.i default) p.1 = false → p.2 w') ∧ wpAnyO P ops Q (O.filter fun p => !waitsO (ops.getD a.i default) p.1) (r.length + segLen segs + σ2.length) (l.setIfInBounds a.i true) (act n (updO ea (some a.d) v)) w') ?_
      rw [hrun]
      refine ⟨fun p hp _ => hO.mid hst2 p hp, anyO_weaken _ O _ _ _ _ (fun p hp => .inl (List.mem_filter.1 hp).1) ?_⟩
      have hperm2 : ((Done ++ [a]) ++ r).Perm A := by
        refine List.Perm.trans ?_ hperm
        rw [List.append_assoc]
        exact (List.Perm.append_left Done hp1.symm)
      have hnd2 : ((Done ++ A').map (·.d)).Nodup := ((hperm.map (·.d)).nodup_iff).2 hnd
      have hne : ∀ q ∈ Done, q.d ≠ a.d := fun q hq he => by
        rw [List.map_append, List.nodup_append] at hnd2
        exact hnd2.2.2 q.d (List.mem_map_of_mem hq) a.d (List.mem_map_of_mem (hp1.mem_iff.2 List.mem_cons_self)) he
      refine ih (Done ++ [a]) r segs _ hok2 hout hperm2 F (rngs w.heap.size 0 a.ps ++ C) O e _ _ (upd bs a.d w.heap.size) (fun i hi => ?_) (fun q hq => ?_) ?_ hst2 hO hX
      · show upd ea a.d _ i = e i
        rw [upd_ne _ _ _ _ (fun hia => hi (by rw [hia]; exact List.mem_map_of_mem haA))]
        exact hea i hi
      · show upd ea a.d _ q.d = _
        rcases List.mem_append.1 hq with hq | hq
        · rw [upd_ne _ _ _ _ (hne q hq), upd_ne _ _ _ _ (hne q hq)]
          exact hD q hq
        · obtain rfl : q = a := by simpa using hq
          rw [upd_same, upd_same]
      · rw [List.flatMap_append]
        have e1 : (Done.flatMap fun q => rngs (upd bs a.d w.heap.size q.d) 0 q.ps) = (Done.flatMap fun q => rngs (bs q.d) 0 q.ps) := by
          have : ∀ (D : List FA), (∀ q ∈ D, q.d ≠ a.d) → (D.flatMap fun q => rngs (upd bs a.d w.heap.size q.d) 0 q.ps) = (D.flatMap fun q => rngs (bs q.d) 0 q.ps) := by
            intro D hD
            induction D with
            | nil => rfl
            | cons x D ihD =>
              rw [List.flatMap_cons, List.flatMap_cons, ihD (fun q hq => hD q (List.mem_cons_of_mem _ hq)), upd_ne _ _ _ _ (hD x List.mem_cons_self)]
          exact this Done hne
        rw [e1]
        simp only [List.flatMap_cons, List.flatMap_nil, List.append_nil, upd_same]
        exact (List.perm_append_comm).trans (hC.append_right _)
    unfold okF at hok
    cases segs with
    | nil =>
      simp only at hok
      cases A' with
      | nil =>
        simp only [List.map_nil] at hok
        split at hok
        · rename_i l'' hp
          rw [beq_iff_eq] at hok
          rw [show ([] : List FA).length + segLen [] + σ2.length = σ2.length + 0 by simp [segLen]]
          refine plan_pre hn hs hQ (f := 0) (fun O e w _ hk => ⟨hok, hk⟩) σ2 O l ea w hp hOw ?_
          rw [List.append_nil] at hperm
          have hX' : KE (fun e w => Plan P n (fun _ e w => Q .normal (act n e) w) (items ops σ2) O e w) B w0 F L A [] e := hX
          have h1 := KE.all bs A [] e hX' w (hst.perm (by
            rw [List.nil_append]
            refine List.Perm.append_left F (List.Perm.append_right L ?_)
            exact hC.trans (hperm.flatMap_right _)))
          have h2 : (A.foldl (fun e a => upd e a.d (.pointer (some ⟨bs a.d, 0, none⟩))) e) = ea := by
            funext i
            rw [foldl_env]
            by_cases hi : i ∈ A.map (·.d)
            · rw [if_pos hi]
              obtain ⟨a, ha, rfl⟩ := List.mem_map.1 hi
              exact (hD a (hperm.mem_iff.2 ha)).symm
            · rw [if_neg hi, hea i hi]
          rw [h2] at h1
          exact h1
        · cases hok
      | cons a0 A0 =>
        simp only [List.map_cons, Bool.and_eq_true, Bool.not_eq_true'] at hok
        obtain ⟨⟨hne, hall⟩, hpk⟩ := hok
        rw [show (a0 :: A0).length + segLen [] + σ2.length = (A0.length + segLen [] + σ2.length) + 1 by simp [segLen]; omega]
        refine ⟨fun h0 => (by rw [h0] at hne; cases hne), fun j hj => ?_⟩
        have h1 := List.all_eq_true.1 hall j hj
        have h2 : j ∈ (a0 :: A0).map (·.i) := by simpa using h1
        obtain ⟨a, ha, rfl⟩ := List.mem_map.1 h2
        obtain ⟨r, hr⟩ := picks_of ha
        have hlen : r.length = A0.length := by have := rest_nil hr; simpa using this.symm
        have hk := List.all_eq_true.1 hpk _ (map_picks (·.i) hr)
        have := float a r hr hk
        rw [hlen] at this
        exact this
    | cons σ segs' =>
      match σ, hok, hout, hX, float with
      | [], hok, _, _, _ => simp at hok
      | (i, true) :: st, hok, _, _, _ => simp at hok
      | (i, false) :: st, hok, hout, hX, float =>
        simp only [Bool.and_eq_true, Bool.not_eq_true'] at hok
        obtain ⟨⟨⟨hne, hall⟩, hpk⟩, hnx⟩ := hok
        have hlen : segLen (((i, false) :: st) :: segs') = st.length + 1 + segLen segs' := by simp [segLen]
        obtain ⟨m, hm⟩ : ∃ m, A'.length + segLen (((i, false) :: st) :: segs') + σ2.length = m + 1 := ⟨A'.length + st.length + segLen segs' + σ2.length, by rw [hlen]; omega⟩
        rw [hm]
        refine ⟨fun h0 => (by rw [h0] at hne; cases hne), fun j hj => ?_⟩
        have h1 := List.all_eq_true.1 hall j hj
        have h2 : j = i ∨ j ∈ A'.map (·.i) := by simpa using h1
        by_cases hji : j ∈ A'.map (·.i)
        · obtain ⟨a, ha, rfl⟩ := List.mem_map.1 hji
          obtain ⟨r, hr⟩ := picks_of ha
          have hl2 := rest_nil hr
          have hk := List.all_eq_true.1 hpk _ (map_picks (·.i) hr)
          have := float a r hr hk
          rw [show r.length + segLen (((i, false) :: st) :: segs') + σ2.length = m by omega] at this
          exact this
        · obtain rfl : j = i := h2.resolve_right hji
          split at hnx
          · rename_i l'' hp
            have hout1 : (((j, false) :: st).all fun p => match (ops.getD p.1 default).dst with | some d => !(A.map (·.d)).contains d | none => true) = true ∧ segsOut ops (A.map (·.d)) segs' = true := by
              unfold segsOut at hout
              rw [List.all_cons, Bool.and_eq_true] at hout
              exact hout
            have hplan := Plan.env (ds := A.map (·.d)) _ O _ w (segsOut_spec hout1.1) (hX C ea w hst)
            rw [ov_self hea] at hplan
            have hmm : m = st.length + (A'.length + segLen segs' + σ2.length) := by rw [hlen] at hm; omega
            rw [hmm]
            refine eff_step hn hj hOw (fun O' e' w' hO' h' => ?_) hplan
            refine plan_pre hn hs hQ (f := A'.length + segLen segs' + σ2.length) (fun O'' e'' w'' hO'' hk => ?_) st O' _ e' w' hp hO' h'
            obtain ⟨⟨F', hk2, hk1, hk3⟩, hk4⟩ := hk
            refine ih Done A' segs' l'' hnx hout1.2 hperm F' C O'' e'' e'' w'' bs (fun _ _ => rfl) (fun a ha => ?_) hC hk2 hk1 hk3
            rw [hk4 a.d (List.mem_map_of_mem (hperm.mem_iff.1 (List.mem_append_left _ ha)))]
            exact hD a ha
          · cases hnx
end

section
variable {P : Program} {n : Nat} {ops : Array Oper} {B : Nat} {w0 : World}
theorem PX.step {L : List Rg} {ds : List Nat} {Z : List Rg → Pend → Env → Prop} {σ : List (Nat × Bool)} {segs : List (List (Nat × Bool))} {F : List Rg} {O : Pend} {e : Env}
    (h : ∀ C z w, St B w0 (F ++ (C ++ L)) w → Plan P n (fun O' e' w' => ∃ F', St B w0 (F' ++ (C ++ L)) w' ∧ PIn O' (F' ++ L) ∧ PX P n ops B w0 L ds Z segs F' O' e') (items ops σ) O (ov ds z e) w) : PX P n ops B w0 L ds Z (σ :: segs) F O e := h
theorem PX.done {L : List Rg} {ds : List Nat} {Z : List Rg → Pend → Env → Prop} {F : List Rg} {O : Pend} {e : Env} (h : Z F O e) : PX P n ops B w0 L ds Z [] F O e := h
theorem KE.step {G : Env → World → Prop} {F L : List Rg} {a : FA} {A : List FA} {R : List Rg} {e : Env} (h : ∀ b, KE G B w0 F L A (R ++ rngs b 0 a.ps) (upd e a.d (.pointer (some ⟨b, 0, none⟩)))) : KE G B w0 F L (a :: A) R e := h
theorem KE.fin {G : Env → World → Prop} {F L : List Rg} {R : List Rg} {e : Env} (h : ∀ w, St B w0 (F ++ (R ++ L)) w → G e w) : KE G B w0 F L [] R e := h
theorem flget {L : List Rg} {i : Nat} {r : Rg} (h : L[i]? = some r) (C : List Rg) : (C ++ L)[i + C.length]? = some r := by
  rw [List.getElem?_append_right (by omega), Nat.add_sub_cancel]; exact h
theorem flun {L C : List Rg} {i : Nat} {r : Rg} (h : (C ++ L)[i + C.length]? = some r) : L[i]? = some r := by
  rw [List.getElem?_append_right (by omega), Nat.add_sub_cancel] at h; exact h

end

section regions
variable {P : Program} {n : Nat} {R : Exit → Env → World → Prop} {e : Env} {w : World} {B : Nat} {w0 : World}
def planFl (ops : Array Oper) (n : Nat) (A : List (Nat × Nat)) (σ0 : List (Nat × Bool)) (segs : List (List (Nat × Bool))) (σ2 : List (Nat × Bool)) : Bool :=
  Region.noSelect ops && Nat.ble n 1000000 && (σ0.length + (A.length + segLen segs + σ2.length) == ops.size) && segsOut ops (A.map (·.2)) segs && decide ((A.map (·.2)).Nodup) &&
  (match planP ops σ0 (Array.replicate ops.size false) with
    | some l => okS ops σ2 (A.map (·.1)) segs l
    | none => false)
def isAlloc (ops : Array Oper) (a : Nat × Nat × TypeId) : Bool := match ops[a.1]? with
  | some ⟨some d, .alloc t, _, _, _, none⟩ => d == a.2.1 && t == a.2.2
  | _ => false
inductive ZeroL (P : Program) : List (TypeId × List (Nat × (Nat → Value))) → Prop
  | nil : ZeroL P []
  | cons {T : TypeId} {ps : List (Nat × (Nat → Value))} {l : List (TypeId × List (Nat × (Nat → Value)))} (h : zeroIs P T ps) (t : ZeroL P l) : ZeroL P ((T, ps) :: l)
theorem ZeroL.mem {P : Program} {l : List (TypeId × List (Nat × (Nat → Value)))} (h : ZeroL P l) : ∀ q ∈ l, zeroIs P q.1 q.2 := by
  induction h with
  | nil => intro q hq; cases hq
  | cons h t ih =>
    intro q hq
    rcases List.mem_cons.1 hq with rfl | hq
    · exact h
    · exact ih q hq
theorem W.regionX {id : Nat} {ops : Array Oper} {L : List Rg} (hm : P.follows .mixedOrders = true) (A : List FA) (σ0 : List (Nat × Bool)) (segs : List (List (Nat × Bool))) (σ2 : List (Nat × Bool))
    (hB : planFl ops n (A.map fun a => (a.i, a.d)) σ0 segs σ2 = true) (hal : (A.map fun a => (a.i, a.d, a.T)).all (isAlloc ops) = true) (hz : ZeroL P (A.map fun a => (a.T, a.ps)))
    (h : Plan P n (fun O' e' w' => ∃ F', St B w0 (F' ++ L) w' ∧ PIn O' (F' ++ L) ∧ PX P n ops B w0 L (A.map (·.d)) (fun F O e => KE (fun e w => Plan P n (fun _ e w => R .normal e w) (items ops σ2) O e w) B w0 F L A [] e) segs F' O' e') (items ops σ0) [] e w.drew) :
    W P n (.region id ops true) R e w := by
  simp only [planFl, Bool.and_eq_true, beq_iff_eq, decide_eq_true_iff, List.length_map, List.map_map] at hB
  obtain ⟨⟨⟨⟨⟨hs, hn⟩, hl⟩, hout⟩, hnd⟩, hp⟩ := hB
  refine wp_region_any hm (anyO_any _ [] _ _ _ ?_)
  split at hp
  · rename_i l0 hp0
    have hfa : ∀ a ∈ A, isFA P ops a := fun a ha => by
      have h1 := List.all_eq_true.1 hal _ (List.mem_map.2 ⟨a, ha, rfl⟩)
      refine ⟨?_, hz.mem _ (List.mem_map.2 ⟨a, ha, rfl⟩)⟩
      unfold isAlloc at h1
      split at h1
      · rename_i d t ty pos aft he
        simp only [Bool.and_eq_true, beq_iff_eq] at h1
        obtain ⟨rfl, rfl⟩ := h1
        exact ⟨ty, pos, aft, he⟩
      · cases h1
    rw [← hl]
    rw [← hl] at hp0
    have hw : ({ w with drawn := w.drawn + 1 } : World) = w.drew := rfl
    rw [hw]
    refine plan_pre (by simpa using hn) hs (fun c a w hq => hq) (f := A.length + segLen segs + σ2.length) (fun O' e' w' hO' hk => ?_) σ0 [] _ e _ hp0 (fun p hp => by cases hp) h
    obtain ⟨F', hk2, hk1, hk3⟩ := hk
    refine fl_sound (L := L) (A := A) (by simpa using hn) hs (fun c a w hq => hq) hfa hnd (A.length + segs.length + 1) [] A segs l0 (okS_okF segs l0 hp (A.length + segs.length + 1) [] (A.map (·.i)) (List.Perm.refl _) (by rw [List.length_map]; omega)) hout (List.Perm.refl _) F' [] O' e' e' w' (fun _ => 0) (fun _ _ => rfl) (fun a ha => by cases ha) (List.Perm.refl _) hk2 hk1 ?_
    revert hk3
    generalize w.drew = w1 at *
    intro hk3
    exact PX.mono (fun F O e hz => KE.mono (fun e w hg => Plan.mono (fun O e w hr => ⟨e, rfl, hr⟩) _ _ _ _ hg) A _ _ hz) segs F' O' e' hk3
  · cases hp
end regions
end Go.LW

/-
  ENGINE X, PART 8 (own work): slices of elements of many cells: views, own ones; structs compared.
-/
namespace Go.LW
set_option linter.unusedSimpArgs false
set_option linter.unusedVariables false
set_option linter.unusedSectionVars false
open Go Go.RowKit

/-- A kind of element: its plain form (α), what memory adds (β), its cells, what must hold of what it leads to. -/
structure EL where
  (α β : Type)
  sz : Nat
  E : β → α → List (Nat × (Nat → Value))
  val : β → α → Value
  ck : Value → Prop
  side : List Rg → β → α → Prop
  hlen : ∀ b x, (catL (E b x)).length = sz
  hval : ∀ b x, cellsL (val b x) = catL (E b x)
  one : ∀ b x v, v ∈ catL (E b x) → v.oneCell' = true
  ckE : ∀ b x v, v ∈ catL (E b x) → ck v
  mono : ∀ C L b x, side L b x → side (C ++ L) b x
def EL.cells (D : EL) (L : List Rg) (G : Nat → Value) (x : D.α) : Prop := ∃ b, D.side L b x ∧ ∀ k v, (catL (D.E b x))[k]? = some v → G k = v
theorem EL.cells.app {D : EL} {L : List Rg} {G : Nat → Value} {x : D.α} (h : D.cells L G x) (C : List Rg) : D.cells (C ++ L) G x := by
  obtain ⟨b, h1, h2⟩ := h
  exact ⟨b, D.mono C L b x h1, h2⟩
theorem EL.cells.congr {D : EL} {L : List Rg} {G G' : Nat → Value} {x : D.α} (h : D.cells L G x) (hG : ∀ k, k < D.sz → G k = G' k) : D.cells L G' x := by
  obtain ⟨b, h1, h2⟩ := h
  refine ⟨b, h1, fun k v hv => ?_⟩
  rw [← hG k (by rw [← D.hlen b x]; exact (List.getElem?_eq_some_iff.1 hv).1)]
  exact h2 k v hv
theorem EL.cells.one {D : EL} {L : List Rg} {G : Nat → Value} {x : D.α} (h : D.cells L G x) {k : Nat} (hk : k < D.sz) : (G k).oneCell' = true := by
  obtain ⟨b, h1, h2⟩ := h
  have hk' : k < (catL (D.E b x)).length := by rw [D.hlen]; exact hk
  rw [h2 k _ (List.getElem?_eq_getElem hk')]
  exact D.one b x _ (List.getElem_mem hk')
theorem EL.cells.ck {D : EL} {L : List Rg} {G : Nat → Value} {x : D.α} (h : D.cells L G x) {k : Nat} (hk : k < D.sz) : D.ck (G k) := by
  obtain ⟨b, h1, h2⟩ := h
  have hk' : k < (catL (D.E b x)).length := by rw [D.hlen]; exact hk
  rw [h2 k _ (List.getElem?_eq_getElem hk')]
  exact D.ckE b x _ (List.getElem_mem hk')

/-- The slice (a, len, cc) reads as X, out of range i (or it is empty). -/
def LV (D : EL) (L : List Rg) (i : Nat) (a : Option Addr) (len cc : Nat) (X : List D.α) : Prop :=
  X.length = len ∧ len ≤ cc ∧ (0 < len → ∃ (offs ms js os : Nat) (ps : Option Nat) (G : Nat → Value) (rw : Bool), L[i]? = some ⟨ps, offs, ms, G, rw⟩ ∧ SlV a ps os len ∧ os = offs + js ∧ js + len * D.sz ≤ ms ∧ ∀ j x, X[j]? = some x → D.cells L (fun k => G (js + j * D.sz + k)) x)
structure LO (D : EL) (L : List Rg) (a : Option Addr) (pb : Option Nat) (len cap : Nat) (F : Nat → Value) (X : List D.α) : Prop where
  ho : OwnSl a pb cap
  hc : len ≤ cap
  hl : X.length = len
  hF : ∀ j x, X[j]? = some x → D.cells L (fun k => F (j * D.sz + k)) x
  hK : ∀ q, q < cap * D.sz → D.ck (F q)

theorem LV.hl {D : EL} {L : List Rg} {i : Nat} {a : Option Addr} {len cc : Nat} {X : List D.α} (h : LV D L i a len cc X) : X.length = len := h.1
theorem LV.le {D : EL} {L : List Rg} {i : Nat} {a : Option Addr} {len cc : Nat} {X : List D.α} (h : LV D L i a len cc X) : len ≤ cc := h.2.1
theorem LV.nil {D : EL} {L : List Rg} (i : Nat) {a : Option Addr} {cc : Nat} : LV D L i a 0 cc [] := ⟨rfl, Nat.zero_le _, fun h => absurd h (Nat.lt_irrefl 0)⟩
theorem LV.app {D : EL} {L : List Rg} {i : Nat} {a : Option Addr} {len cc : Nat} {X : List D.α} (h : LV D L i a len cc X) (C : List Rg) : LV D (C ++ L) (i + C.length) a len cc X := by
  obtain ⟨hl, hc, h⟩ := h
  refine ⟨hl, hc, fun hn => ?_⟩
  obtain ⟨offs, ms, js, os, ps, G, rw, h1, h2, h3, h4, h5⟩ := h hn
  exact ⟨offs, ms, js, os, ps, G, rw, by rw [List.getElem?_append_right (by omega), Nat.add_sub_cancel]; exact h1, h2, h3, h4, fun j x hx => (h5 j x hx).app C⟩
/-- elements that lead nowhere -/
def EL.flat (D : EL) : Prop := ∀ L L' b x, D.side L b x → D.side L' b x
theorem LV.move {D : EL} (hf : D.flat) {L L' : List Rg} {i i' : Nat} {a : Option Addr} {len cc : Nat} {X : List D.α} (h : LV D L i a len cc X) {r : Rg} (h1 : L[i]? = some r) (h2 : L'[i']? = some r) : LV D L' i' a len cc X := by
  obtain ⟨hl, hc, h⟩ := h
  refine ⟨hl, hc, fun hn => ?_⟩
  obtain ⟨offs, ms, js, os, ps, G, rw, g1, g2, g3, g4, g5⟩ := h hn
  rw [h1] at g1
  obtain rfl := Option.some.inj g1
  exact ⟨offs, ms, js, os, ps, G, rw, h2, g2, g3, g4, fun j x hx => by
    obtain ⟨b, k1, k2⟩ := g5 j x hx
    exact ⟨b, hf _ _ _ _ k1, k2⟩⟩
theorem LV.unapp {D : EL} (hf : D.flat) {D' L : List Rg} {i : Nat} {a : Option Addr} {len cc : Nat} {X : List D.α} (h : LV D (D' ++ L) (i + D'.length) a len cc X) : LV D L i a len cc X := by
  obtain ⟨hl, hc, h⟩ := h
  refine ⟨hl, hc, fun hn => ?_⟩
  obtain ⟨offs, ms, js, os, ps, G, rw, g1, g2, g3, g4, g5⟩ := h hn
  rw [List.getElem?_append_right (by omega), Nat.add_sub_cancel] at g1
  exact ⟨offs, ms, js, os, ps, G, rw, g1, g2, g3, g4, fun j x hx => by
    obtain ⟨b, k1, k2⟩ := g5 j x hx
    exact ⟨b, hf _ _ _ _ k1, k2⟩⟩
/-- a part of a list -/
def sgl {α : Type} (X : List α) (lo hi : Nat) : List α := (X.drop lo).take (hi - lo)
theorem sgl_length {α : Type} {X : List α} {lo hi : Nat} (h : lo ≤ hi ∧ hi ≤ X.length) : (sgl X lo hi).length = hi - lo := by
  unfold sgl; rw [List.length_take, List.length_drop]; omega
theorem LV.sgl {D : EL} {L : List Rg} {i : Nat} {a : Option Addr} {len cc : Nat} {X : List D.α} (h : LV D L i a len cc X) {lo hi : Nat} (hb : lo ≤ hi ∧ hi ≤ len) : LV D L i (if cc = lo then a else a.map (·.add (lo * D.sz))) (hi - lo) (cc - lo) (sgl X lo hi) := by
  obtain ⟨hl, hc, h⟩ := h
  refine ⟨sgl_length (by omega), by omega, fun hn => ?_⟩
  obtain ⟨offs, ms, js, os, ps, G, rw, h1, h2, h3, h4, h6⟩ := h (by omega)
  have hm : (lo + (hi - lo)) * D.sz = lo * D.sz + (hi - lo) * D.sz := Nat.add_mul _ _ _
  have hm2 : (lo + (hi - lo)) * D.sz ≤ len * D.sz := Nat.mul_le_mul_right _ (by omega)
  refine ⟨offs, ms, js + lo * D.sz, os + lo * D.sz, ps, G, rw, h1, ?_, by omega, by omega, fun j x hx => ?_⟩
  · intro hn
    obtain ⟨b, hb1, hb2⟩ := h2 (by omega)
    refine ⟨b, hb1, ?_⟩
    rw [if_neg (by omega), hb2]
    simp [Addr.add]
  · unfold LW.sgl at hx
    have hj : j < hi - lo := by
      have := (List.getElem?_eq_some_iff.1 hx).1
      rw [List.length_take] at this; omega
    rw [List.getElem?_take_of_lt hj, List.getElem?_drop] at hx
    have := h6 (lo + j) x hx
    rw [Nat.add_mul] at this
    refine this.congr fun k _ => ?_
    show G _ = G _
    congr 1; omega
theorem LO.lv {D : EL} {L0 L : List Rg} {a : Option Addr} {pb : Option Nat} {len cap : Nat} {F : Nat → Value} {X : List D.α} (h : LO D L0 a pb len cap F X) (hs : ∀ b x, D.side L0 b x → D.side L b x) (k : Nat) (hL : L[k]? = some ⟨pb, 0, cap * D.sz, F, true⟩) : LV D L k a len cap X := by
  refine ⟨h.hl, h.hc, fun _ => ⟨0, cap * D.sz, 0, 0, pb, F, true, hL, h.ho.sl h.hc, rfl, by rw [Nat.zero_add]; exact Nat.mul_le_mul_right _ h.hc, fun j x hx => ?_⟩⟩
  obtain ⟨b, h1, h2⟩ := h.hF j x hx
  exact ⟨b, hs b x h1, fun k v hv => by rw [Nat.zero_add]; exact h2 k v hv⟩
theorem LO.nil {D : EL} {L : List Rg} {F : Nat → Value} : LO D L none none 0 0 F [] := ⟨OwnSl.nil, Nat.le_refl _, rfl, fun j x hx => by simp at hx, fun q hq => absurd hq (by simp)⟩
theorem LO.re {D : EL} {L0 L : List Rg} {a : Option Addr} {pb : Option Nat} {len cap : Nat} {F : Nat → Value} {X : List D.α} (h : LO D L0 a pb len cap F X) (hs : ∀ b x, D.side L0 b x → D.side L b x) : LO D L a pb len cap F X :=
  ⟨h.ho, h.hc, h.hl, fun j x hx => by
    obtain ⟨b, h1, h2⟩ := h.hF j x hx
    exact ⟨b, hs b x h1, h2⟩, h.hK⟩

theorem AGL_congr {ps qs : List (Nat × (Nat → Value))} (h : catL ps = catL qs) : AG ps = AG qs := by unfold AG; rw [h]
theorem getD_of {α : Type} {X : List α} {j : Nat} (hj : j < X.length) (dflt : α) : X[j]? = some (X.getD j dflt) := by
  rw [List.getD_eq_getElem?_getD, List.getElem?_eq_getElem hj]; rfl

/-! append, the old slice kept beside -/
section keep
variable {P : Program} {B : Nat} {w0 w : World} {L : List Rg}
theorem St.emptied (h : St B w0 L w) {k : Nat} {r : Rg} (hk : k < L.length) (f : Nat → Value) : St B w0 (L.set k r) w → St B w0 (r :: L.set k ⟨none, 0, 0, f, true⟩) w := fun h1 => by
  have h2 := h1.nilE f
  refine h2.perm ?_
  have e1 : ∀ x : Rg, L.set k x = L.take k ++ x :: L.drop (k + 1) := fun x => List.set_eq_take_append_cons_drop.trans (by rw [if_pos hk])
  rw [e1, e1]
  have p1 : (L.take k ++ r :: L.drop (k + 1)).Perm (r :: (L.take k ++ L.drop (k + 1))) := List.perm_middle
  have p2 : (L.take k ++ (⟨none, 0, 0, f, true⟩ : Rg) :: L.drop (k + 1)).Perm (⟨none, 0, 0, f, true⟩ :: (L.take k ++ L.drop (k + 1))) := List.perm_middle
  exact ((p1.cons _).trans (List.Perm.swap _ _ _)).trans (p2.symm.cons _)
theorem St.instead' {r r' : Rg} {k : Nat} (hk : k < L.length) (h : St B w0 (r :: L.set k r') w) : St B w0 (L.set k r) w := by
  have h1 := h.instead (k := k) (by simpa using hk)
  rw [List.set_set] at h1
  exact h1
theorem run_appendK (hst : St B w0 L w) {t t' ty : TypeId} {s by' len cap n k : Nat} {z : Value} {zf : Nat → Value} {a : Option Addr} {pb : Option Nat} {F g : Nat → Value} {y : Value} (he : elB P t s by' z) (hzs : z.cells.size = s) (hzf : ∀ q, q < s → z.cells[q]! = zf q) (hL : L[k]? = some ⟨pb, 0, cap * s, F, true⟩) (ho : OwnSl a pb cap)
    (hsrc : Src P s t' y n ((List.range (n * s)).map g) w) (hlc : len ≤ cap) (hb : (len + n) * by' ≤ 140737488355328) (h63 : len + n < 9223372036854775808) :
    ∃ w' a' pb' cap' ip r, (Builtin.append_ #[t, t'] ty #[.slice a len cap, y]).run P w = .ok (.slice a' (len + n) cap') w' ∧ OwnSl a' pb' cap' ∧ (len + n ≤ cap' ∧ cap ≤ cap') ∧
      St B w0 (⟨pb', 0, cap' * s, fun q => if ip = true ∨ q < (len + n) * s then spl F (len * s) (n * s) g q else zf (q % s), true⟩ :: L.set k r) w' ∧
      ((ip = true ∧ a' = a ∧ pb' = pb ∧ cap' = cap) ∨ (ip = false ∧ r = ⟨pb, 0, cap * s, F, true⟩)) := by
  obtain ⟨el, i, hu, hi, hs1, hby, hz⟩ := he
  subst hs1
  have hk : k < L.length := (List.getElem?_eq_some_iff.1 hL).1
  have hfun : (fun q => if true = true ∨ q < (len + n) * i.size then spl F (len * i.size) (n * i.size) g q else zf (q % i.size)) = spl F (len * i.size) (n * i.size) g := by funext q; rw [if_pos (.inl rfl)]
  by_cases hroom : len + n ≤ cap
  · by_cases h0 : n = 0
    · subst h0
      refine ⟨w, a, pb, cap, true, ⟨none, 0, 0, fun _ => undef, true⟩, run_append_nothing w t t' ty el i hu hi a len cap hlc y (by simpa using hsrc), ho, ⟨hroom, Nat.le_refl _⟩, ?_, .inl ⟨rfl, rfl, rfl, rfl⟩⟩
      rw [hfun]
      have h1 : spl F (len * i.size) (0 * i.size) g = F := by rw [Nat.zero_mul]; funext q; rw [spl_out _ _ _ _ _ (by omega)]
      rw [h1]
      refine St.emptied hst hk _ ?_
      have h2 : L.set k ⟨pb, 0, cap * i.size, F, true⟩ = L := by
        obtain ⟨hk, hLk⟩ := List.getElem?_eq_some_iff.1 hL
        rw [← hLk]; exact List.set_getElem_self hk
      rw [h2]; exact hst
    · obtain ⟨b, hpb, ha⟩ : ∃ b, pb = some b ∧ a = some ⟨b, 0, none⟩ := by
        rcases ho with ⟨h1, _⟩ | h1
        · omega
        · exact h1
      subst hpb ha
      have hfit : len * i.size + n * i.size ≤ cap * i.size := by rw [← Nat.add_mul]; exact Nat.mul_le_mul_right _ hroom
      have hth := hst.thereR hL hfit
      refine ⟨_, some ⟨b, 0, none⟩, some b, cap, true, ⟨none, 0, 0, fun _ => undef, true⟩, run_append_room_src w t t' ty el i hu hi b 0 len cap y n _ hsrc hroom (fun j hj => (hth j (by simpa using hj)).1) (fun j hj => (hth j (by simpa using hj)).2), .inr ⟨b, rfl, rfl⟩, ⟨hroom, Nat.le_refl _⟩, ?_, .inl ⟨rfl, rfl, rfl, rfl⟩⟩
      rw [hfun]
      have h5 := hst.setRange (g := g) hL (n * i.size) hfit
      have h6 := h5.nilE (fun _ => undef)
      refine h6.perm ?_
      have e1 : ∀ x : Rg, L.set k x = L.take k ++ x :: L.drop (k + 1) := fun x => List.set_eq_take_append_cons_drop.trans (by rw [if_pos hk])
      rw [e1, e1]
      exact ((List.perm_middle.cons _).trans (List.Perm.swap _ _ _)).trans ((List.perm_middle (l₁ := L.take k) (a := (⟨none, 0, 0, fun _ => undef, true⟩ : Rg)) (l₂ := L.drop (k + 1))).symm.cons _)
  · have hcap := grownCap_ge w (len + n) cap el
    have hold : (Builtin.firstCells i.size len (.slice a len cap)).run P w.drew = .ok ((List.range (len * i.size)).map F).toArray w.drew := by
      by_cases h0 : len = 0
      · subst h0
        cases a with
        | none => simp [Builtin.firstCells]
        | some a => simp [Builtin.firstCells, loadCells]; rfl
      · obtain ⟨b, hpb, ha⟩ : ∃ b, pb = some b ∧ a = some ⟨b, 0, none⟩ := by
          rcases ho with ⟨h1, _⟩ | h1
          · omega
          · exact h1
        subst hpb ha
        simp only [Builtin.firstCells]
        refine run_loadCells w.drew ⟨b, 0, none⟩ (len * i.size) F (fun q hq => ?_)
        have hfit : len * i.size ≤ cap * i.size := Nat.mul_le_mul_right _ hlc
        obtain ⟨b', hp', hcell⟩ := hst.drew.mem hL q (show q < cap * i.size by omega)
        obtain rfl : b = b' := Option.some.inj hp'
        rw [Addr.add_mid]
        exact hcell
    have hfit := growslice_fits (need := len + n) (old := cap) (bytes := i.bytes) (by omega) (by rw [hby]; exact hb)
    have hr := run_append_grow_src (P := P) w t t' ty el i z hu hi hz a len cap _ hold y n _ hsrc (by omega) (by omega) hfit
    have hcm : (len + n) * i.size + (grownCap w (len + n) cap el - (len + n)) * i.size = grownCap w (len + n) cap el * i.size := by rw [← Nat.add_mul]; congr 1; omega
    have hln : (len + n) * i.size = len * i.size + n * i.size := Nat.add_mul _ _ _
    have hcat : (catL [(grownCap w (len + n) cap el * i.size, fun q => if false = true ∨ q < (len + n) * i.size then spl F (len * i.size) (n * i.size) g q else zf (q % i.size))]).toArray = ((List.range (len * i.size)).map F ++ (List.range (n * i.size)).map g).toArray ++ Builtin.zeroCells z.cells (grownCap w (len + n) cap el - (len + n)) := by
      apply Array.ext'
      apply List.ext_getElem?
      intro q
      rw [catL_one]
      have hzc : (Builtin.zeroCells z.cells (grownCap w (len + n) cap el - (len + n))).toList = (List.range ((grownCap w (len + n) cap el - (len + n)) * i.size)).map fun x => zf (x % i.size) := by
        unfold Builtin.zeroCells
        rw [hzs]
        simp only [Array.toList_map, Array.toList_range]
        refine List.map_congr_left fun x hx => ?_
        have hx := List.mem_range.1 hx
        have hpos : 0 < i.size := by
          rcases Nat.eq_zero_or_pos i.size with h0 | h0
          · rw [h0] at hx; omega
          · exact h0
        exact hzf _ (Nat.mod_lt _ hpos)
      simp only [Array.toList_append, hzc]
      by_cases h1 : q < len * i.size
      · rw [List.append_assoc, List.getElem?_append_left (by simpa using h1)]
        simp [show q < grownCap w (len + n) cap el * i.size by omega, h1, show q < (len + n) * i.size by omega, spl, show ¬ (len * i.size ≤ q ∧ q < len * i.size + n * i.size) by omega]
      · rw [List.append_assoc, List.getElem?_append_right (by simpa using h1)]
        by_cases h2 : q < (len + n) * i.size
        · rw [List.getElem?_append_left (by simp; omega)]
          simp [show q < grownCap w (len + n) cap el * i.size by omega, h2, spl, show len * i.size ≤ q ∧ q < len * i.size + n * i.size by omega, show q - len * i.size < n * i.size by omega]
        · rw [List.getElem?_append_right (by simp; omega)]
          by_cases h3 : q < grownCap w (len + n) cap el * i.size
          · have h4 : (q - len * i.size - n * i.size) % i.size = q % i.size := by
              have h5 : q = (q - len * i.size - n * i.size) + i.size * (len + n) := by rw [Nat.mul_comm i.size, hln]; omega
              conv => rhs; rw [h5]
              rw [Nat.add_mul_mod_self_left]
            simp [h3, h2, show q - len * i.size - n * i.size < (grownCap w (len + n) cap el - (len + n)) * i.size by omega, h4]
          · simp [h3, show ¬ (q - len * i.size - n * i.size < (grownCap w (len + n) cap el - (len + n)) * i.size) by omega]
    rw [← hcat] at hr
    refine ⟨_, some ⟨w.heap.size, 0, none⟩, some w.heap.size, grownCap w (len + n) cap el, false, ⟨pb, 0, cap * i.size, F, true⟩, hr, .inr ⟨_, rfl, rfl⟩, ⟨hcap, by omega⟩, ?_, .inr ⟨rfl, rfl⟩⟩
    have := hst.drew.alloc [(grownCap w (len + n) cap el * i.size, fun q => if false = true ∨ q < (len + n) * i.size then spl F (len * i.size) (n * i.size) g q else zf (q % i.size))] el
    have h2 : L.set k ⟨pb, 0, cap * i.size, F, true⟩ = L := by
      obtain ⟨hk, hLk⟩ := List.getElem?_eq_some_iff.1 hL
      rw [← hLk]; exact List.set_getElem_self hk
    rw [h2]
    exact this
end keep
section run
variable {P : Program} {B : Nat} {w0 w : World} {L : List Rg}
theorem run_firstCellsS {a : Option Addr} {pb : Option Nat} {s o len cap cnt off m j : Nat} {f : Nat → Value} {rw : Bool} (hst : St B w0 L w) {k : Nat} (hL : L[k]? = some ⟨pb, off, m, f, rw⟩) (hs : SlV a pb o len) (ho : o = off + j) (hc : cnt ≤ len) (hj : j + cnt * s ≤ m) :
    (Builtin.firstCells s cnt (.slice a len cap)).run P w = .ok ((List.range (cnt * s)).map fun q => f (j + q)).toArray w := by
  by_cases h0 : cnt = 0
  · subst h0
    cases a with
    | none => simp [Builtin.firstCells]
    | some a => simp [Builtin.firstCells, loadCells]; rfl
  · obtain ⟨b, hp, ha⟩ := hs (by omega)
    subst ha
    simp only [Builtin.firstCells]
    refine run_loadCells w ⟨b, o, none⟩ (cnt * s) (fun q => f (j + q)) (fun q hq => ?_)
    obtain ⟨b', hp', hcell⟩ := hst.mem hL (j + q) (show j + q < m by omega)
    simp only at hp'
    obtain rfl : b = b' := by rw [hp] at hp'; exact Option.some.inj hp'
    rw [Addr.add_mid, ho, Nat.add_assoc, hcell]
theorem run_appendS' (hst : St B w0 L w) {t t' ty : TypeId} {s by' len cap n k : Nat} {z : Value} {zf : Nat → Value} {a : Option Addr} {pb : Option Nat} {F g : Nat → Value} {y : Value} (he : elB P t s by' z) (hzs : z.cells.size = s) (hzf : ∀ q, q < s → z.cells[q]! = zf q) (hL : L[k]? = some ⟨pb, 0, cap * s, F, true⟩) (ho : OwnSl a pb cap)
    (hsrc : Src P s t' y n ((List.range (n * s)).map g) w) (hlc : len ≤ cap) (hb : (len + n) * by' ≤ 140737488355328) (h63 : len + n < 9223372036854775808) :
    ∃ w' a' pb' cap' ip, (Builtin.append_ #[t, t'] ty #[.slice a len cap, y]).run P w = .ok (.slice a' (len + n) cap') w' ∧ OwnSl a' pb' cap' ∧ len + n ≤ cap' ∧ St B w0 (L.set k ⟨pb', 0, cap' * s, fun q => if ip = true ∨ q < (len + n) * s then spl F (len * s) (n * s) g q else zf (q % s), true⟩) w' ∧ (ip = true → cap' ≤ cap) := by
  have hk : k < L.length := (List.getElem?_eq_some_iff.1 hL).1
  obtain ⟨w', a', pb', cap', ip, r, h1, h2, h3, h4, h5⟩ := run_appendK (P := P) (ty := ty) hst he hzs hzf hL ho hsrc hlc hb h63
  refine ⟨w', a', pb', cap', ip, h1, h2, h3.1, St.instead' hk h4, fun hip => ?_⟩
  rcases h5 with ⟨_, _, _, h5⟩ | ⟨h5, _⟩
  · omega
  · rw [h5] at hip; cases hip
theorem Src.ofLV {D : EL} (hst : St B w0 L w) {t' e' : TypeId} (hk : P.underlying t' = some (.slice e')) {a : Option Addr} {ix len cap : Nat} {X : List D.α} (h : LV D L ix a len cap X) :
    ∃ g : Nat → Value, Src P D.sz t' (.slice a len cap) len ((List.range (len * D.sz)).map g) w ∧ ∀ j x, X[j]? = some x → D.cells L (fun k => g (j * D.sz + k)) x := by
  obtain ⟨hl, hc, h⟩ := h
  by_cases hn : 0 < len
  · obtain ⟨offs, ms, js, os, ps, G, rw, h1, h2, h3, h4, h5⟩ := h hn
    refine ⟨fun q => G (js + q), ⟨.inl ⟨e', hk⟩, fun _ => rfl, run_firstCellsS hst h1 h2 h3 (Nat.le_refl _) h4, run_firstCellsS hst.drew h1 h2 h3 (Nat.le_refl _) h4, by simp, fun u hu => ?_⟩, fun j x hx => ?_⟩
    · obtain ⟨q, hq, rfl⟩ := List.mem_map.1 hu
      have hq := List.mem_range.1 hq
      have hs : 0 < D.sz := by
        rcases Nat.eq_zero_or_pos D.sz with h0 | h0
        · rw [h0, Nat.mul_zero] at hq; omega
        · exact h0
      have hj : q / D.sz < X.length := by rw [hl]; exact (Nat.div_lt_iff_lt_mul hs).2 hq
      have := (h5 _ _ (List.getElem?_eq_getElem hj)).one (Nat.mod_lt q hs)
      have e : js + q / D.sz * D.sz + q % D.sz = js + q := by rw [Nat.add_assoc, Nat.div_add_mod']
      rw [e] at this
      exact this
    · refine (h5 j x hx).congr fun k _ => ?_
      show G _ = G _
      congr 1; omega
  · obtain rfl : len = 0 := by omega
    refine ⟨fun _ => undef, ⟨.inl ⟨e', hk⟩, fun _ => rfl, ?_, ?_, by simp, by simp⟩, fun j x hx => ?_⟩
    · cases a <;> simp [Builtin.firstCells, loadCells]
      all_goals rfl
    · cases a <;> simp [Builtin.firstCells, loadCells]
      all_goals rfl
    · have := (List.getElem?_eq_some_iff.1 hx).1
      omega
end run

section step
variable {P : Program} {n : Nat} {K : Pend → Env → World → Prop} {l : List It} {O O' : Pend} {e : Env} {w : World} {i ty : Nat} {d : Tmp} {pos : String} {aft : Array Edge} {gd g : Option (Nat × Bool)}
variable {B : Nat} {w0 : World} {L L' : List Rg} {D : EL}

/-- the address of an element -/
theorem Plan.idxLV {t : TypeId} {x y : Operand} {k : IntKind} {ix len cc j sz : Nat} {a : Option Addr} {X : List D.α} (hX : LV D L ix a len cc X) (ha : slB P t sz = true) (hg : wantedE n e g = true) (hx : ev n e x = .slice a len cc) (hy : ev n e y = .int k (j : Int)) (hj : j < len)
    (h : Plan P n K l O (upd e d (.pointer (a.map fun z => ⟨z.block, z.off + j * sz, none⟩))) w) : Plan P n K (⟨i, true, ⟨some d, .indexAddr t x y, ty, pos, aft, gd⟩, g⟩ :: l) O e w := by
  obtain ⟨hl, hc, hX⟩ := hX
  obtain ⟨offs, ms, js, os, ps, G, rw, h1, h2, h3⟩ := hX (by omega)
  obtain ⟨b, hb1, hb2⟩ := h2 (by omega)
  subst hb2
  exact Plan.idxSl ha hg hx hy hj h
theorem cells_at {len j js ms s : Nat} (hj : j < len) (h4 : js + len * s ≤ ms) : js + j * s + s ≤ ms := by
  have h1 : (j + 1) * s ≤ len * s := Nat.mul_le_mul_right _ hj
  rw [Nat.succ_mul] at h1
  omega
/-- an element of many cells is read -/
theorem Plan.loadLV (hst : St B w0 L w) {t : TypeId} {x : Operand} {ix len cc j sz : Nat} {a : Option Addr} {X : List D.α} (dflt : D.α) (hX : LV D L ix a len cc X) (hg : wantedE n e g = true) (hx : ev n e x = .pointer (a.map fun z => ⟨z.block, z.off + j * sz, none⟩)) (hj : j < len) (hsz : D.sz = sz) (ht : aggT P t sz = true)
    (h : ∀ b r, D.side L b (X.getD j dflt) → L[ix]? = some r → Plan P n K l ((i, r.at) :: O) (upd e d (AG (D.E b (X.getD j dflt)))) w) : Plan P n K (⟨i, true, ⟨some d, .load t x, ty, pos, aft, gd⟩, g⟩ :: l) O e w := by
  subst hsz
  obtain ⟨hl, hc, hX⟩ := hX
  obtain ⟨offs, ms, js, os, ps, G, rw, h1, h2, h3, h4, h5⟩ := hX (by omega)
  obtain ⟨b, hb1, hb2⟩ := h2 (by omega)
  subst hb2 hb1
  obtain ⟨bb, s1, s2⟩ := h5 j _ (getD_of (by omega) dflt)
  have hx' : ev n e x = .pointer (some ⟨b, offs + (js + j * D.sz), none⟩) := by rw [hx, ← Nat.add_assoc, ← h3]; rfl
  refine Plan.loadSub hst ix (js + j * D.sz) hg hx' h1 rfl (cells_at hj h4) ht ?_
  have h7 := h bb _ s1 h1
  have e1 : AG [(D.sz, fun q => G (js + j * D.sz + q))] = AG (D.E bb (X.getD j dflt)) := by
    refine AGL_congr ?_
    rw [catL_one]
    have hlen := D.hlen bb (X.getD j dflt)
    apply List.ext_getElem?
    intro q
    by_cases hq : q < D.sz
    · have hq2 : q < (catL (D.E bb (X.getD j dflt))).length := by rw [hlen]; exact hq
      rw [List.getElem?_eq_getElem hq2, List.getElem?_map, List.getElem?_range hq]
      exact congrArg some (s2 q _ (List.getElem?_eq_getElem hq2))
    · rw [List.getElem?_eq_none (by simpa using hq), List.getElem?_eq_none (by omega)]
  rw [e1]
  exact h7
/-- an element of one cell -/
theorem Plan.loadLV1 (hst : St B w0 L w) {t : TypeId} {x : Operand} {ix len cc j : Nat} {a : Option Addr} {X : List D.α} (dflt : D.α) (v : D.β → D.α → Value) (hX : LV D L ix a len cc X) (hg : wantedE n e g = true) (hx : ev n e x = .pointer (a.map fun z => ⟨z.block, z.off + j * 1, none⟩)) (hj : j < len) (hsz : D.sz = 1) (hv : ∀ b y, (catL (D.E b y))[0]? = some (v b y)) (ht : scalarT P t = true)
    (h : ∀ b r, D.side L b (X.getD j dflt) → L[ix]? = some r → Plan P n K l ((i, r.at) :: O) (upd e d (v b (X.getD j dflt))) w) : Plan P n K (⟨i, true, ⟨some d, .load t x, ty, pos, aft, gd⟩, g⟩ :: l) O e w := by
  obtain ⟨hl, hc, hX⟩ := hX
  obtain ⟨offs, ms, js, os, ps, G, rw, h1, h2, h3, h4, h5⟩ := hX (by omega)
  obtain ⟨b, hb1, hb2⟩ := h2 (by omega)
  subst hb2 hb1
  obtain ⟨bb, s1, s2⟩ := h5 j _ (getD_of (by omega) dflt)
  have hx' : ev n e x = .pointer (some ⟨b, offs + (js + j), none⟩) := by rw [hx, ← Nat.add_assoc, ← h3, Nat.mul_one]; rfl
  have h7 := h bb _ s1 h1
  have e1 : G (js + j * D.sz + 0) = _ := s2 0 _ (hv bb _)
  rw [hsz, Nat.mul_one, Nat.add_zero] at e1
  rw [hsz] at h4
  refine Plan.load1 hst ix hg hx' h1 (by omega) ht ?_
  rw [e1]
  exact h7
/-- an element of an own slice is set -/
theorem LO.set {a : Option Addr} {pb : Option Nat} {len cap j : Nat} {F f' : Nat → Value} {X : List D.α} {y : D.α} (hO : LO D L a pb len cap F X) (hj : j < len) (hy : D.cells L f' y) : LO D L a pb len cap (spl F (j * D.sz) D.sz f') (X.set j y) := by
  refine ⟨hO.ho, hO.hc, by rw [List.length_set]; exact hO.hl, fun q x hx => ?_, fun q hq => ?_⟩
  rotate_left
  · by_cases h : j * D.sz ≤ q ∧ q < j * D.sz + D.sz
    · rw [spl_in _ _ _ _ _ h]; exact hy.ck (by omega)
    · rw [spl_out _ _ _ _ _ h]; exact hO.hK q hq
  by_cases hq : q = j
  · subst hq
    rw [List.getElem?_set_self (by rw [hO.hl]; exact hj)] at hx
    obtain rfl := Option.some.inj hx
    refine hy.congr fun k hk => ?_
    rw [spl_in _ _ _ _ _ ⟨by omega, by omega⟩]
    congr 1; omega
  · rw [List.getElem?_set_ne (Ne.symm hq)] at hx
    refine (hO.hF q x hx).congr fun k hk => ?_
    rw [spl_out _ _ _ _ _ ?_]
    rintro ⟨h1, h2⟩
    rcases Nat.lt_or_gt_of_ne hq with h3 | h3
    · have : (q + 1) * D.sz ≤ j * D.sz := Nat.mul_le_mul_right _ h3
      rw [Nat.succ_mul] at this
      omega
    · have : (j + 1) * D.sz ≤ q * D.sz := Nat.mul_le_mul_right _ h3
      rw [Nat.succ_mul] at this
      omega
theorem Plan.storeLO (hst : St B w0 L w) {L0 : List Rg} {t : TypeId} {x y : Operand} {len cap j sz : Nat} {a : Option Addr} {pb : Option Nat} {F : Nat → Value} {X : List D.α} (bb : D.β) (Y : D.α) (k : Nat) (hO : LO D L0 a pb len cap F X) (hs : D.side L0 bb Y) (hg : wantedE n e g = true) (hx : ev n e x = .pointer (a.map fun z => ⟨z.block, z.off + j * sz, none⟩)) (hy : ev n e y = AG (D.E bb Y))
    (hL : L[k]? = some ⟨pb, 0, cap * sz, F, true⟩) (hj : j < len) (hsz : D.sz = sz) (ht : szT P t sz = true) (hw : ∀ r, EffO aft O (L.set k r) O')
    (h : ∀ w' F', LO D L0 a pb len cap F' (X.set j Y) → St B w0 (L.set k ⟨pb, 0, cap * sz, F', true⟩) w' → Plan P n K l O' e w') : Plan P n K (⟨i, false, ⟨none, .store t x y, ty, pos, aft, gd⟩, g⟩ :: l) O e w := by
  subst hsz
  have hOc := hO.hc
  obtain ⟨b, rfl, rfl⟩ := hO.ho.pos (by omega)
  have hlen := D.hlen bb Y
  have hAG : AG (D.E bb Y) = AG [(D.sz, fun q => (catL (D.E bb Y)).getD q undef)] := by
    refine AGL_congr ?_
    rw [catL_one]
    apply List.ext_getElem?
    intro q
    by_cases hq : q < D.sz
    · rw [List.getElem?_map, List.getElem?_range hq, getD_of (by omega) undef]; rfl
    · rw [List.getElem?_eq_none (by omega), List.getElem?_eq_none (by simpa using hq)]
  have hcell : D.cells L0 (fun q => (catL (D.E bb Y)).getD q undef) Y := ⟨bb, hs, fun q v hv => by
    show (catL (D.E bb Y)).getD q undef = v
    rw [List.getD_eq_getElem?_getD, hv]; rfl⟩
  have hbd : j * D.sz + D.sz ≤ cap * D.sz := by
    have : (j + 1) * D.sz ≤ cap * D.sz := Nat.mul_le_mul_right _ (by omega)
    rw [Nat.succ_mul] at this
    exact this
  refine Plan.storeSub (off := 0) (j := j * D.sz) (o := 0 + j * D.sz) hst k hg (by rw [hx]; rfl) (by rw [hy, hAG]) hL rfl hbd (fun q hq => ?_) ht (hw _) fun w' h' => h w' _ (hO.set hj hcell) h'
  exact hcell.one hq
/-- the cells of a list, all of one kind -/
theorem rows_ck {L : List Rg} {X : List D.α} {g : Nat → Value} {m : Nat} (hm : X.length = m) (hg : ∀ j x, X[j]? = some x → D.cells L (fun k => g (j * D.sz + k)) x) {q : Nat} (hq : q < m * D.sz) : D.ck (g q) := by
  have hs : 0 < D.sz := by
    rcases Nat.eq_zero_or_pos D.sz with h0 | h0
    · rw [h0, Nat.mul_zero] at hq; omega
    · exact h0
  have hj : q / D.sz < X.length := by rw [hm]; exact (Nat.div_lt_iff_lt_mul hs).2 hq
  have := (hg _ _ (List.getElem?_eq_getElem hj)).ck (Nat.mod_lt q hs)
  rw [Nat.div_add_mod'] at this
  exact this
theorem app_ck {L0 L : List Rg} {len cap m cap' : Nat} {a : Option Addr} {pb : Option Nat} {F gg : Nat → Value} {X Y : List D.α} {z : Value} {bb : D.β} {zx : D.α} {ip : Bool} (hO : LO D L0 a pb len cap F X) (hz : z.cells.toList = catL (D.E bb zx)) (hYl : Y.length = m) (hgg : ∀ j x, Y[j]? = some x → D.cells L (fun k => gg (j * D.sz + k)) x) (hip : ip = true → cap' ≤ cap) (q : Nat) (hq : q < cap' * D.sz) :
    D.ck (if ip = true ∨ q < (len + m) * D.sz then spl F (len * D.sz) (m * D.sz) gg q else z.cells[q % D.sz]!) := by
  by_cases h1 : ip = true ∨ q < (len + m) * D.sz
  · rw [if_pos h1]
    by_cases h2 : len * D.sz ≤ q ∧ q < len * D.sz + m * D.sz
    · rw [spl_in _ _ _ _ _ h2]; exact rows_ck hYl hgg (by omega)
    · rw [spl_out _ _ _ _ _ h2]
      refine hO.hK q ?_
      rcases h1 with h1 | h1
      · exact Nat.lt_of_lt_of_le hq (Nat.mul_le_mul_right _ (hip h1))
      · rw [Nat.add_mul] at h1
        have : len * D.sz ≤ cap * D.sz := Nat.mul_le_mul_right _ hO.hc
        omega
  · rw [if_neg h1]
    have hs : 0 < D.sz := by
      rcases Nat.eq_zero_or_pos D.sz with h0 | h0
      · rw [h0, Nat.mul_zero] at hq; omega
      · exact h0
    have hzl : z.cells.size = D.sz := by rw [← Array.length_toList, hz, D.hlen]
    have hlt : q % D.sz < z.cells.size := by rw [hzl]; exact Nat.mod_lt _ hs
    refine D.ckE bb zx _ ?_
    rw [← hz, Array.getElem!_eq_getD, Array.getD_eq_getD_getElem?, Array.getElem?_eq_getElem hlt]
    exact Array.getElem_mem_toList hlt
/-- append of a view onto an own slice -/
theorem Plan.appendLO (hst : St B w0 L w) {L0 : List Rg} {t t' el' : TypeId} {x y : Operand} {len cap m cy iy sz by' : Nat} {a ay : Option Addr} {pb : Option Nat} {F : Nat → Value} {X Y : List D.α} {z : Value} (bb : D.β) (zx : D.α) (k : Nat) (hO : LO D L0 a pb len cap F X) (hsz : D.sz = sz) (he : elD P t = some (sz, by', some z)) (hzc : z.cells.toList = catL (D.E bb zx)) (ht' : P.underlying t' = some (.slice el')) (hg : wantedE n e g = true)
    (hx : ev n e x = .slice a len cap) (hy : ev n e y = .slice ay m cy) (hL : L[k]? = some ⟨pb, 0, cap * sz, F, true⟩) (hY : LV D L iy ay m cy Y) (hs0 : ∀ b x, D.side L b x → D.side L0 b x) (hb : (len + m) * by' ≤ 140737488355328) (h63 : len + m < 9223372036854775808)
    (hw : ∀ r, EffO aft O (L.set k r) O')
    (h : ∀ a' pb' cap' (F' : Nat → Value) w', LO D L0 a' pb' (X ++ Y).length cap' F' (X ++ Y) → St B w0 (L.set k ⟨pb', 0, cap' * sz, F', true⟩) w' → Plan P n K l O' (updO e (some d) (.slice a' (X ++ Y).length cap')) w') :
    Plan P n K (⟨i, false, ⟨some d, .call ⟨.builtin .append, #[x, y], #[t, t']⟩, ty, pos, aft, gd⟩, g⟩ :: l) O e w := by
  subst hsz
  have hzs : z.cells.size = D.sz := by rw [← Array.length_toList, hzc, D.hlen]
  obtain ⟨gg, hsrc, hgg⟩ := Src.ofLV hst ht' hY
  obtain ⟨w', a', pb', cap', ip, hr, ho', hcap, hst', hipc⟩ := run_appendS' (P := P) (ty := ty) (zf := fun q => z.cells[q]!) hst (elB_of he) hzs (fun q hq => rfl) hL hO.ho hsrc hO.hc hb h63
  have hl : (X ++ Y).length = len + m := by rw [List.length_append, hO.hl, hY.hl]
  have hLO : LO D L0 a' pb' (len + m) cap' (fun q => if ip = true ∨ q < (len + m) * D.sz then spl F (len * D.sz) (m * D.sz) gg q else z.cells[q % D.sz]!) (X ++ Y) := by
    refine ⟨ho', hcap, hl, fun j x hx => ?_, app_ck hO hzc hY.hl hgg hipc⟩
    have hj : j < len + m := by rw [← hl]; exact (List.getElem?_eq_some_iff.1 hx).1
    have hin : ∀ k, k < D.sz → j * D.sz + k < (len + m) * D.sz := fun k hk => by
      have : (j + 1) * D.sz ≤ (len + m) * D.sz := Nat.mul_le_mul_right _ hj
      rw [Nat.succ_mul] at this
      omega
    by_cases h1 : j < X.length
    · rw [List.getElem?_append_left h1] at hx
      refine (hO.hF j x hx).congr fun k hk => ?_
      rw [if_pos (.inr (hin k hk)), spl_out]
      rintro ⟨h2, _⟩
      have : (j + 1) * D.sz ≤ len * D.sz := Nat.mul_le_mul_right _ (by rw [hO.hl] at h1; exact h1)
      rw [Nat.succ_mul] at this
      omega
    · rw [List.getElem?_append_right (by omega)] at hx
      obtain ⟨b, s1, s2⟩ := hgg _ x hx
      refine EL.cells.congr ⟨b, hs0 b x s1, s2⟩ fun k hk => ?_
      have e1 : j * D.sz = len * D.sz + (j - X.length) * D.sz := by rw [← Nat.add_mul, hO.hl]; congr 1; rw [hO.hl] at h1; omega
      have e2 : (j - X.length) * D.sz + k < m * D.sz := by
        have := hin k hk
        rw [Nat.add_mul] at this
        omega
      rw [if_pos (.inr (hin k hk)), spl_in _ _ _ _ _ ⟨by omega, by omega⟩]
      congr 1; omega
  rw [← hl] at hr hLO
  refine Plan.effS hg (w' := w') (v := .slice a' (X ++ Y).length cap') (run_blt2 fun c => ?_) hst' (hw _) fun w' hw' => h a' pb' cap' _ w' ?_ hw'
  · rw [hx, hy]
    simp only [builtin, Sem.run_bind, hr]
    rfl
  · rw [hl] at hLO ⊢; exact hLO
/-- an element of one cell is set -/
theorem Plan.storeLO1 (hst : St B w0 L w) {L0 : List Rg} {t : TypeId} {x y : Operand} {len cap j : Nat} {a : Option Addr} {pb : Option Nat} {F : Nat → Value} {X : List D.α} (bb : D.β) (Y : D.α) (v : Value) (k : Nat) (hO : LO D L0 a pb len cap F X) (hs : D.side L0 bb Y) (hg : wantedE n e g = true) (hx : ev n e x = .pointer (a.map fun z => ⟨z.block, z.off + j * 1, none⟩)) (hy : ev n e y = v) (hv : catL (D.E bb Y) = [v])
    (hL : L[k]? = some ⟨pb, 0, cap * 1, F, true⟩) (hj : j < len) (hsz : D.sz = 1) (ht : szT P t 1 = true) (hw : O.all (fun p => waitsO ⟨none, .store t x y, ty, pos, aft, gd⟩ p.1) = true)
    (h : ∀ w' F', LO D L0 a pb len cap F' (X.set j Y) → St B w0 (L.set k ⟨pb, 0, cap * 1, F', true⟩) w' → Plan P n K l [] e w') : Plan P n K (⟨i, false, ⟨none, .store t x y, ty, pos, aft, gd⟩, g⟩ :: l) O e w := by
  have hOc := hO.hc
  obtain ⟨b, rfl, rfl⟩ := hO.ho.pos (by omega)
  have hone : v.oneCell' = true := D.one bb Y v (by rw [hv]; exact List.mem_singleton.2 rfl)
  have hcell : D.cells L0 (fun _ => v) Y := ⟨bb, hs, fun q u hu => by
    rw [hv] at hu
    cases q with
    | zero => simpa using hu
    | succ q => simp at hu⟩
  have hset := hO.set hj hcell
  rw [hsz, Nat.mul_one] at hset
  have e1 : spl F j 1 (fun _ => v) = upd F j v := by
    funext q
    rw [upd_at]
    by_cases hq : q = j
    · subst hq; rw [if_pos rfl, spl_in _ _ _ _ _ ⟨by omega, by omega⟩]
    · rw [if_neg hq, spl_out _ _ _ _ _ (by omega)]
  rw [e1] at hset
  refine Plan.store1 (off := 0) (j := j) hst k hg (by rw [hx]; simp) hy hL (by omega) hone ht hw fun w' h' => h w' _ hset h'
theorem writeL_length : ∀ (vs cs : List Value) (o : Nat), (writeL cs o vs).length = cs.length
  | [], _, _ => rfl
  | v :: vs, cs, o => by
    show (writeL (cs.set o v) (o + 1) vs).length = _
    rw [writeL_length vs, List.length_set]
/-- all elements laid, one behind the other -/
def idxd (D : EL) : Nat → List (D.β × D.α) → List (Nat × Value)
  | _, [] => []
  | q, p :: xs => (q, D.val p.1 p.2) :: idxd D (q + 1) xs
theorem fill_rows : ∀ (xs : List (D.β × D.α)) (q : Nat) (A C : List Value), A.length = q * D.sz → C.length = xs.length * D.sz → fillL (fun i => some (i * D.sz, D.sz)) (A ++ C) (idxd D q xs) = some (A ++ xs.flatMap fun p => catL (D.E p.1 p.2))
  | [], q, A, C, _, hC => by
    have : C = [] := List.length_eq_zero_iff.1 (by simpa using hC)
    subst this
    simp [idxd, fillL]
  | p :: xs, q, A, C, hA, hC => by
    have hC1 : C.length = D.sz + xs.length * D.sz := by rw [hC, List.length_cons, Nat.succ_mul, Nat.add_comm]
    have e1 : A ++ C = A ++ C.take D.sz ++ C.drop D.sz := by rw [List.append_assoc, List.take_append_drop]
    have hz : (C.take D.sz).length = D.sz := by rw [List.length_take]; omega
    show fillL _ (A ++ C) ((q, D.val p.1 p.2) :: idxd D (q + 1) xs) = _
    rw [e1, fillStep (A := A) (Z := C.take D.sz) (C := C.drop D.sz) (Y := catL (D.E p.1 p.2)) (by rw [hA, hz]) (by rw [hz]; exact D.hlen _ _) (D.hval _ _)]
    rw [fill_rows xs (q + 1) (A ++ catL (D.E p.1 p.2)) (C.drop D.sz) (by rw [List.length_append, hA, D.hlen, Nat.succ_mul]) (by rw [List.length_drop]; omega)]
    rw [List.flatMap_cons, List.append_assoc]
theorem rows_at : ∀ (xs : List (D.β × D.α)) (j : Nat) (p : D.β × D.α) (k : Nat) (v : Value), xs[j]? = some p → (catL (D.E p.1 p.2))[k]? = some v → (xs.flatMap fun p => catL (D.E p.1 p.2))[j * D.sz + k]? = some v
  | q :: xs, 0, p, k, v, h, hv => by
    obtain rfl : q = p := by simpa using h
    rw [List.flatMap_cons, Nat.zero_mul, Nat.zero_add, List.getElem?_append_left (List.getElem?_eq_some_iff.1 hv).1]
    exact hv
  | q :: xs, j + 1, p, k, v, h, hv => by
    have ih := rows_at xs j p k v (by simpa using h) hv
    rw [List.flatMap_cons, List.getElem?_append_right (by rw [D.hlen, Nat.succ_mul]; omega), D.hlen, Nat.succ_mul, show j * D.sz + D.sz + k - D.sz = j * D.sz + k by omega]
    exact ih
theorem rows_length : ∀ xs : List (D.β × D.α), (xs.flatMap fun p => catL (D.E p.1 p.2)).length = xs.length * D.sz
  | [] => by simp
  | q :: xs => by rw [List.flatMap_cons, List.length_append, D.hlen, rows_length xs, List.length_cons, Nat.succ_mul, Nat.add_comm]
/-- a slice built of elements -/
theorem Plan.buildLO (hst : St B w0 L w) {t el : TypeId} {len sz : Nat} {parts : Array (Nat × Operand)} {z : Value} (xs : List (D.β × D.α)) (hu : P.underlying t = some (.slice el)) (hs : szT P el sz = true) (hz : (P.info? el).bind (·.zero) = some z)
    (hl : 0 < len * sz) (hl2 : len * sz ≤ 16777216) (hg : wantedE n e g = true) (hsz : D.sz = sz) (hXl : xs.length = len)
    (hv : parts.toList.map (fun p => (p.1, ev n e p.2)) = idxd D 0 xs) (hX : ∀ p ∈ xs, D.side L p.1 p.2) (hO : EffO aft O L O')
    (h : ∀ b w' F, B ≤ b → LO D L (some ⟨b, 0, none⟩) (some b) (xs.map (·.2)).length len F (xs.map (·.2)) → St B w0 (⟨some b, 0, len * sz, F, true⟩ :: L) w' → Plan P n K l O' (upd e d (.slice (some ⟨b, 0, none⟩) (xs.map (·.2)).length len)) w') :
    Plan P n K (⟨i, false, ⟨some d, .buildSlice t len parts, ty, pos, aft, gd⟩, g⟩ :: l) O e w := by
  subst hsz
  have hlen := rows_length xs
  rw [hXl] at hlen
  have hcat : catL [(len * D.sz, fun q => (xs.flatMap fun p => catL (D.E p.1 p.2)).getD q undef)] = xs.flatMap fun p => catL (D.E p.1 p.2) := by
    rw [catL_one]
    apply List.ext_getElem?
    intro q
    by_cases hq : q < len * D.sz
    · rw [List.getElem?_map, List.getElem?_range hq, getD_of (by omega) undef]; rfl
    · rw [List.getElem?_eq_none (by simpa using hq), List.getElem?_eq_none (by omega)]
  have hf : fillL (fun i => some (i * D.sz, D.sz)) ((List.range (len * D.sz)).map fun i => z.cells[i % z.cells.size]!) (idxd D 0 xs) = some (catL [(len * D.sz, fun q => (xs.flatMap fun p => catL (D.E p.1 p.2)).getD q undef)]) := by
    rw [hcat]
    have := fill_rows xs 0 [] ((List.range (len * D.sz)).map fun i => z.cells[i % z.cells.size]!) (by simp) (by simp [hXl])
    simpa using this
  refine Plan.buildSlice (ps := [(len * D.sz, fun q => (xs.flatMap fun p => catL (D.E p.1 p.2)).getD q undef)]) hst hu hs hz hl hl2 hg hv hf hO (fun b w' hb hst' => ?_)
  have hm : (xs.map (·.2)).length = len := by rw [List.length_map, hXl]
  have := h b w' (fun q => (xs.flatMap fun (p : D.β × D.α) => catL (D.E p.1 p.2)).getD q undef) hb ⟨.inr ⟨b, rfl, rfl⟩, by rw [hm]; exact Nat.le_refl _, rfl, fun j x hx => by
    rw [List.getElem?_map] at hx
    cases hq : xs[j]? with
    | none => rw [hq] at hx; cases hx
    | some p =>
      rw [hq] at hx
      obtain rfl : p.2 = x := by simpa using hx
      exact ⟨p.1, hX p (List.mem_of_getElem? hq), fun k v hv => by
        show List.getD _ _ _ = v
        rw [List.getD_eq_getElem?_getD, rows_at xs j p k v hq hv]; rfl⟩, fun q hq => by
    have hq2 : q < (xs.flatMap fun (p : D.β × D.α) => catL (D.E p.1 p.2)).length := by rw [hlen]; exact hq
    rw [List.getD_eq_getElem?_getD, List.getElem?_eq_getElem hq2]
    obtain ⟨p, _, hv⟩ := List.mem_flatMap.1 (List.getElem_mem hq2)
    exact D.ckE _ _ _ hv⟩ hst'
  rw [hm] at this
  exact this
/-- a slice made of zeros -/
theorem Plan.makeLO (hst : St B w0 L w) {t : TypeId} {x y : Operand} {len c sz by' : Nat} {k k' : IntKind} {z : Value} (bb : D.β) (zx : D.α) (he : elD P t = some (sz, by', some z)) (hsz : D.sz = sz) (hz : z.cells.toList = catL (D.E bb zx)) (hs : D.side L bb zx) (hg : wantedE n e g = true) (hx : ev n e x = .int k (len : Int)) (hy : ev n e y = .int k' (c : Int)) (hlc : len ≤ c) (hc : c * by' ≤ 281474976710656) (hc2 : c < 9223372036854775808)
    (hO : ∀ r, EffO aft O (r :: L) O')
    (h : ∀ b w' F, B ≤ b → LO D L (some ⟨b, 0, none⟩) (some b) (List.replicate len zx).length c F (List.replicate len zx) → St B w0 (⟨some b, 0, c * sz, F, true⟩ :: L) w' → Plan P n K l O' (updO e (some d) (.slice (some ⟨b, 0, none⟩) (List.replicate len zx).length c)) w') :
    Plan P n K (⟨i, false, ⟨some d, .makeSlice t x y, ty, pos, aft, gd⟩, g⟩ :: l) O e w := by
  subst hsz
  obtain ⟨el, inf, hu, hi, hs1, hby, hzz⟩ := elB_of he
  have hr := run_make (P := P) w t el inf _ hu hi hzz k k' len c (Int.natCast_nonneg _) (by omega) (by rw [hby, ← Int.natCast_mul, Nat.mul_comm]; exact Int.ofNat_le.2 hc) (by omega)
  have hzl : z.cells.size = D.sz := by rw [← Array.length_toList, hz, D.hlen]
  have hm : madeCells z.cells ((c : Int).toNat * inf.size) = (catL [(c * D.sz, fun q => z.cells[q % z.cells.size]!)]).toArray := by
    rw [hs1, Int.toNat_natCast, catL_one]
    unfold madeCells
    apply Array.ext'
    simp
  rw [hm] at hr
  have hLO : LO D L (some ⟨w.heap.size, 0, none⟩) (some w.heap.size) (List.replicate len zx).length c (fun q => z.cells[q % z.cells.size]!) (List.replicate len zx) := by
    refine ⟨.inr ⟨_, rfl, rfl⟩, by rw [List.length_replicate]; exact hlc, rfl, fun j x hx => ?_, fun q hq => ?_⟩
    rotate_left
    · have hs : 0 < D.sz := by
        rcases Nat.eq_zero_or_pos D.sz with h0 | h0
        · rw [h0, Nat.mul_zero] at hq; omega
        · exact h0
      have hlt : q % z.cells.size < z.cells.size := Nat.mod_lt _ (by omega)
      refine D.ckE bb zx _ ?_
      rw [← hz, Array.getElem!_eq_getD, Array.getD_eq_getD_getElem?, Array.getElem?_eq_getElem hlt]
      exact Array.getElem_mem_toList hlt
    obtain rfl : zx = x := by
      rw [List.getElem?_replicate] at hx
      split at hx
      · simpa using hx
      · cases hx
    refine ⟨bb, hs, fun q v hv => ?_⟩
    have hq : q < D.sz := by rw [← D.hlen bb zx]; exact (List.getElem?_eq_some_iff.1 hv).1
    show z.cells[(j * D.sz + q) % z.cells.size]! = v
    rw [hzl, Nat.add_comm, Nat.add_mul_mod_self_right, Nat.mod_eq_of_lt hq]
    rw [← hz] at hv
    rw [Array.getElem?_toList] at hv
    rw [Array.getElem!_eq_getD, Array.getD_eq_getD_getElem?, hv]; rfl
  refine Plan.effS (w' := w.alloc (.cells (catL [(c * D.sz, fun q => z.cells[q % z.cells.size]!)]).toArray el)) (v := .slice (some ⟨w.heap.size, 0, none⟩) (List.replicate len zx).length c) hg (run_v ?_) (hst.alloc [(c * D.sz, fun q => z.cells[q % z.cells.size]!)] el) (hO _) (fun w' hw' => h _ w' _ hst.base hLO hw')
  rw [hx, hy, hr]
  simp
end step
end Go.LW

/-
  ENGINE X, PART 9 (own work): structs compared.
-/
namespace Go.LW
set_option linter.unusedSimpArgs false
set_option linter.unusedVariables false
set_option linter.unusedSectionVars false
open Go Go.RowKit

def EqV (P : Program) (d : Nat) (t : TypeId) (v v' : Value) (b : Bool) : Prop := ∀ w, (Op.equalIn d t v v').run P w = .ok b w
def intT (P : Program) (t : TypeId) (k : IntKind) : Bool := match P.underlying t with | some (.int q) => q == k | _ => false
theorem intT_spec {P : Program} {t : TypeId} {k : IntKind} (h : intT P t k = true) : P.underlying t = some (.int k) := by
  unfold intT at h
  cases hu : P.underlying t with
  | none => rw [hu] at h; cases h
  | some q =>
    rw [hu] at h
    cases q <;> try (cases h; done)
    simp only [beq_iff_eq] at h
    subst h; rfl
section
variable {P : Program} {d : Nat} {t : TypeId}
theorem EqV.int {k : IntKind} {a b : Int} (h : intT P t k = true) : EqV P (d + 1) t (.int k a) (.int k b) (decide (a = b)) := fun w => by
  rw [run_equalIn_int w d t k k a b (intT_spec h)]
  congr 1
theorem EqV.nat {k : IntKind} {a b : Nat} (h : intT P t k = true) : EqV P (d + 1) t (.int k (a : Int)) (.int k (b : Int)) (decide (a = b)) := fun w => by
  rw [run_equalIn_int w d t k k a b (intT_spec h)]
  congr 1
  rw [Bool.eq_iff_iff, beq_iff_eq, decide_eq_true_iff]; omega
theorem EqV.u {k : IntKind} {s : Nat} {a b : BitVec s} (h : intT P t k = true) : EqV P (d + 1) t (VU k a) (VU k b) (decide (a = b)) := fun w => by
  rw [run_equalIn_int w d t k k _ _ (intT_spec h)]
  congr 1
  rw [Bool.eq_iff_iff, beq_iff_eq, decide_eq_true_iff, BitVec.toNat_eq]; omega
theorem EqV.bool {a b : Bool} (h : P.underlying t = some .bool) : EqV P (d + 1) t (.bool a) (.bool b) (a == b) := fun w => run_equalIn_bool' w d t a b h
theorem EqV.str {X Y : List Byte} (h : P.underlying t = some .string) : EqV P (d + 1) t (.string (strL X)) (.string (strL Y)) (decide (X = Y)) := fun w => by
  rw [run_equalIn_string w d t _ _ h, toList_inj]
  congr 1
  exact decide_eq_decide.2 strL_inj
theorem EqV.arr {s n : Nat} {kd : IntKind} {F G : Nat → BitVec s} (h : arrIB P t n kd = true) : EqV P (d + 1 + 1) t (AG [(n, fun q => VU kd (F q))]) (AG [(n, fun q => VU kd (G q))]) (eqB n F G) := fun w => by
  obtain ⟨el, i, hu, hi, hs, hk, _⟩ := arrIB_spec h
  unfold AG
  rw [run_equalIn_array w (d + 1) _ _ hu hi]
  have hc : P.cellsOf el = 1 := by simp [Program.cellsOf, hi, hs]
  rw [hc]
  refine run_eqItems d hk _ _ F G w _ fun j hj => ?_
  have hj := List.mem_range.1 hj
  simp [catL_one, hj]
/-- fields: type and offset -/
inductive EqF (P : Program) (d : Nat) (ps qs : PS) : List (TypeId × Nat) → Bool → Prop
  | nil : EqF P d ps qs [] true
  | agg {ft off : Nat} {fs : List (TypeId × Nat)} {b r : Bool} (A Y C A' Y' C' : PS) (hp : ps = A ++ Y ++ C) (hq : qs = A' ++ Y' ++ C') (ho : (A.map (·.1)).sum = off) (ho' : (A'.map (·.1)).sum = off)
      (ha : aggT P ft (Y.map (·.1)).sum = true) (ha' : aggT P ft (Y'.map (·.1)).sum = true) (h : EqV P d ft (AG Y) (AG Y') b) (t : EqF P d ps qs fs r) : EqF P d ps qs ((ft, off) :: fs) (b && r)
  | one {ft off : Nat} {fs : List (TypeId × Nat)} {b r : Bool} {v v' : Value} (A C A' C' : PS) (F F' : Nat → Value) (hp : ps = A ++ [(1, F)] ++ C) (hq : qs = A' ++ [(1, F')] ++ C') (ho : (A.map (·.1)).sum = off) (ho' : (A'.map (·.1)).sum = off)
      (ha : scalarT P ft = true) (hv : F 0 = v) (hv' : F' 0 = v') (h : EqV P d ft v v' b) (t : EqF P d ps qs fs r) : EqF P d ps qs ((ft, off) :: fs) (b && r)
theorem run_partS {ft off : Nat} {A C : PS} {F : Nat → Value} {v : Value} (ha : scalarT P ft = true) (ho : (A.map (·.1)).sum = off) (hv : F 0 = v) (w : World) : (part ft (catL (A ++ [(1, F)] ++ C)).toArray off).run P w = .ok v w := by
  unfold part
  rw [Sem.run_bind, run_isAggN ha w]
  have : (catL (A ++ [(1, F)] ++ C)).toArray[off]? = some v := by
    rw [catL_app, catL_app, ← ho, ← catL_length]
    simp [catL_one, hv]
  simp only [Result.andThen, Bool.false_eq_true, if_false, this, Sem.run_pure]
theorem run_partA' {ft off : Nat} {A Y C : PS} (ha : aggT P ft (Y.map (·.1)).sum = true) (ho : (A.map (·.1)).sum = off) (w : World) : (part ft (catL (A ++ Y ++ C)).toArray off).run P w = .ok (AG Y) w := by
  rw [catL_app, catL_app, ← ho, ← catL_length]
  exact run_partA ha rfl (catL_length _) w
theorem EqF.run {ps qs : PS} : ∀ {l : List (TypeId × Nat)} {b : Bool}, EqF P d ps qs l b → ∀ (fs : List Field), fs.map (fun f => (f.type, f.offset)) = l → (∀ f ∈ fs, f.name ≠ "_") → ∀ w, (Op.eqFields d (catL ps).toArray (catL qs).toArray fs).run P w = .ok b w := by
  intro l b h
  induction h with
  | nil =>
    intro fs hl _ w
    obtain rfl : fs = [] := List.map_eq_nil_iff.1 hl
    simp [Op.eqFields]
  | @agg ft off l b r A Y C A' Y' C' hp hq ho ho' ha ha' h t ih =>
    intro fs hl hn w
    cases fs with
    | nil => cases hl
    | cons f fs =>
      simp only [List.map_cons, List.cons.injEq, Prod.mk.injEq] at hl
      obtain ⟨⟨rfl, rfl⟩, hl⟩ := hl
      simp only [Op.eqFields, if_pos (hn f List.mem_cons_self), Sem.run_bind]
      have e1 := run_partA' (P := P) (C := C) ha ho w
      have e2 := run_partA' (P := P) (C := C') ha' ho' w
      rw [← hp] at e1
      rw [← hq] at e2
      simp only [e1, e2, Result.andThen_ok, h w]
      cases b with
      | true =>
        simp only [Bool.not_true, Bool.false_eq_true, if_false, Bool.true_and]
        exact ih fs hl (fun g hg => hn g (List.mem_cons_of_mem _ hg)) w
      | false => simp
  | @one ft off l b r v v' A C A' C' F F' hp hq ho ho' ha hv hv' h t ih =>
    intro fs hl hn w
    cases fs with
    | nil => cases hl
    | cons f fs =>
      simp only [List.map_cons, List.cons.injEq, Prod.mk.injEq] at hl
      obtain ⟨⟨rfl, rfl⟩, hl⟩ := hl
      simp only [Op.eqFields, if_pos (hn f List.mem_cons_self), Sem.run_bind]
      have e1 := run_partS (P := P) (C := C) ha ho hv w
      have e2 := run_partS (P := P) (C := C') ha ho' hv' w
      rw [← hp] at e1
      rw [← hq] at e2
      simp only [e1, e2, Result.andThen_ok, h w]
      cases b with
      | true =>
        simp only [Bool.not_true, Bool.false_eq_true, if_false, Bool.true_and]
        exact ih fs hl (fun g hg => hn g (List.mem_cons_of_mem _ hg)) w
      | false => simp
def fieldsB (P : Program) (t : TypeId) (l : List (TypeId × Nat)) : Bool := match P.underlying t with
  | some (.struct fs) => fs.toList.map (fun f => (f.type, f.offset)) == l && fs.toList.all (fun f => f.name != "_") && !P.stoodInHeld t
  | _ => false
theorem EqV.struct {l : List (TypeId × Nat)} {ps qs : PS} {b : Bool} (hB : fieldsB P t l = true) (h : EqF P d ps qs l b) : EqV P (d + 1) t (AG ps) (AG qs) b := fun w => by
  unfold fieldsB at hB
  cases hu : P.underlying t with
  | none => rw [hu] at hB; cases hB
  | some u =>
    rw [hu] at hB
    cases u <;> try (cases hB; done)
    rename_i fs
    simp only [Bool.and_eq_true, beq_iff_eq, Bool.not_eq_true', List.all_eq_true, bne_iff_ne, ne_eq] at hB
    obtain ⟨⟨h1, h2⟩, h3⟩ := hB
    have hf : P.fieldsOf t = fs := by unfold Program.fieldsOf; rw [hu]
    unfold AG
    rw [run_equalIn_struct w d t _ _ (by rw [hu, hf]) h3, hf]
    exact h.run fs.toList h1 (fun f hf => h2 f hf) w
end
section step
variable {P : Program} {n : Nat} {K : Pend → Env → World → Prop} {l : List It} {O O' : Pend} {e : Env} {w : World} {i ty : Nat} {d : Tmp} {pos : String} {aft : Array Edge} {gd g : Option (Nat × Bool)}
theorem Plan.eqStrV' {t yt : TypeId} {x y : Operand} {ps qs : PS} {b c : Bool} (hgd : P.eqGuardType P.depth t = false) (hg : wantedE n e g = true) (hx : ev n e x = AG ps) (hy : ev n e y = AG qs) (hq : EqV P 10000 t (AG ps) (AG qs) b) (hc : b = c)
    (h : Plan P n K l O (upd e d (.bool c)) w) : Plan P n K (⟨i, true, ⟨some d, .binOp .eql t x y yt, ty, pos, aft, gd⟩, g⟩ :: l) O e w :=
  Plan.val hg (fun w => run_v (by
    subst hc
    rw [hx, hy, Sem.run_bind]
    have h1 : (eqGuard .eql t x y (AG ps) (AG qs)).run P w = .ok () w := run_eqGuard hgd w
    rw [h1]
    simp only [Result.andThen_ok]
    have h2 := hq w
    unfold AG at h2 ⊢
    rw [run_eql_struct, h2]; rfl)) h
theorem Plan.neStrV' {t yt : TypeId} {x y : Operand} {ps qs : PS} {b c : Bool} (hgd : P.eqGuardType P.depth t = false) (hg : wantedE n e g = true) (hx : ev n e x = AG ps) (hy : ev n e y = AG qs) (hq : EqV P 10000 t (AG ps) (AG qs) b) (hc : b = c)
    (h : Plan P n K l O (upd e d (.bool (!c))) w) : Plan P n K (⟨i, true, ⟨some d, .binOp .neq t x y yt, ty, pos, aft, gd⟩, g⟩ :: l) O e w :=
  Plan.val hg (fun w => run_v (by
    subst hc
    rw [hx, hy, Sem.run_bind]
    have h1 : (eqGuard .neq t x y (AG ps) (AG qs)).run P w = .ok () w := run_eqGuard hgd w
    rw [h1]
    simp only [Result.andThen_ok]
    have h2 := hq w
    unfold AG at h2 ⊢
    rw [run_neq_struct, h2]; rfl)) h

theorem toNat_lt {x : Int} {m : Nat} (h0 : 0 ≤ x) (h : x < (m : Int)) : x.toNat < m := by omega
/-! a slice of no elements -/
theorem Plan.buildE {B : Nat} {w0 : World} {L : List Rg} (hst : St B w0 L w) {t el : TypeId} {sz : Nat} (F : Nat → Value) (hu : P.underlying t = some (.slice el)) (hs : szT P el sz = true) (hg : wantedE n e g = true) (hO : EffO aft O L O')
    (h : ∀ b w', B ≤ b → St B w0 (⟨some b, 0, 0, F, true⟩ :: L) w' → Plan P n K l O' (upd e d (.slice (some ⟨b, 0, none⟩) 0 0)) w') :
    Plan P n K (⟨i, false, ⟨some d, .buildSlice t 0 #[], ty, pos, aft, gd⟩, g⟩ :: l) O e w := by
  have h' := hst.alloc [] el
  have h2 : St B w0 (⟨some w.heap.size, 0, 0, F, true⟩ :: L) (w.alloc (.cells (catL []).toArray el)) :=
    St.cons (show St B w0 L _ from h') (fun j hj => absurd hj (Nat.not_lt_zero j)) (fun _ j hj => absurd hj (Nat.not_lt_zero j)) (fun s _ _ => .inr (.inr (.inr (.inl rfl))))
  have hr : (execOp (ev n e) ⟨some d, .buildSlice t 0 #[], ty, pos, aft, gd⟩).run P w = .ok (.value (.slice (some ⟨w.heap.size, 0, none⟩) 0 0)) (w.alloc (.cells (catL []).toArray el)) := run_v (by
    simp [Instr.buildSlice, Sem.run_bind, run_underlying hu w, Result.andThen, szT_spec hs, newRow, newObj, Instr.fill, catL]
    rw [show ∀ v : Value, Array.map (fun _ : Nat => v) (Array.range 0) = #[] from fun _ => by simp]
    rfl)
  cases hO with
  | keep hp => refine Plan.eff hg ?_; rw [hr]; exact .inl ⟨(hp.app _ rfl).keep h', h _ _ hst.base h2⟩
  | wait hw => refine Plan.eff hg ?_; rw [hr]; exact .inr ⟨hw, h _ _ hst.base h2⟩
  | mix O' hf hp => refine Plan.effX hg ?_; rw [hr]; exact ⟨PIn.mix hf (hp.app _ rfl) h', (show (O.filter fun p => !waitsA aft p.1) = O' from hf) ▸ h _ _ hst.base h2⟩
theorem Plan.buildEL {B : Nat} {w0 : World} {L : List Rg} (hst : St B w0 L w) {t el : TypeId} {sz : Nat} (F : Nat → Value) (hu : P.underlying t = some (.slice el)) (hs : szT P el sz = true) (hg : wantedE n e g = true) (hO : EffO aft O L O')
    (h : ∀ b w', B ≤ b → St B w0 (⟨some b, 0, 0 * sz, F, true⟩ :: L) w' → Plan P n K l O' (upd e d (.slice (some ⟨b, 0, none⟩) 0 0)) w') :
    Plan P n K (⟨i, false, ⟨some d, .buildSlice t 0 #[], ty, pos, aft, gd⟩, g⟩ :: l) O e w :=
  Plan.buildE hst F hu hs hg hO fun b w' hb h' => h b w' hb (by rw [Nat.zero_mul]; exact h')
theorem Ow.empty {b : Nat} : Ow (some ⟨b, 0, none⟩) (some b) ([] : List Byte).length 0 (fun _ => 0#8) [] := ⟨.inr ⟨b, rfl, rfl⟩, Nat.le_refl _, rfl, fun q hq => absurd hq (Nat.not_lt_zero q)⟩
theorem LO.empty {D : EL} {L : List Rg} {b : Nat} {F : Nat → Value} : LO D L (some ⟨b, 0, none⟩) (some b) ([] : List D.α).length 0 F [] := ⟨.inr ⟨b, rfl, rfl⟩, Nat.le_refl _, rfl, fun j x hx => by simp at hx, fun q hq => absurd hq (by simp)⟩
end step

/-! parts' cells are single -/
def Ones : List (Nat × (Nat → Value)) → Prop
  | [] => True
  | p :: ps => (∀ q, (p.2 q).oneCell' = true) ∧ Ones ps
theorem Ones.mem : ∀ {ps : List (Nat × (Nat → Value))}, Ones ps → ∀ v ∈ catL ps, v.oneCell' = true
  | [], _, v, hv => by simp [catL] at hv
  | p :: ps, h, v, hv => by
    rw [catL_cons] at hv
    rcases List.mem_append.1 hv with hv | hv
    · obtain ⟨q, _, rfl⟩ := List.mem_map.1 hv
      exact h.1 q
    · exact Ones.mem h.2 v hv

section step
variable {P : Program} {n : Nat} {K : Pend → Env → World → Prop} {l : List It} {O O' : Pend} {e : Env} {w : World} {i ty : Nat} {d : Tmp} {pos : String} {aft : Array Edge} {gd g : Option (Nat × Bool)}
variable {B : Nat} {w0 : World} {L L' : List Rg} {D : EL}
theorem LO.lvf {a : Option Addr} {pb : Option Nat} {len cap : Nat} {F : Nat → Value} {X : List D.α} (hf : D.flat) (h : LO D [] a pb len cap F X) (k : Nat) (hL : L[k]? = some ⟨pb, 0, cap * D.sz, F, true⟩) : LV D L k a len cap X := h.lv (fun b x hs => hf _ _ b x hs) k hL
theorem Plan.idxLVS (_ : St B w0 L w) {t : TypeId} {x y : Operand} {k : IntKind} {ix len cc j sz : Nat} {a : Option Addr} {X : List D.α} (hX : LV D L ix a len cc X) (ha : slB P t sz = true) (hg : wantedE n e g = true) (hx : ev n e x = .slice a len cc) (hy : ev n e y = .int k (j : Int)) (hj : j < len)
    (h : Plan P n K l O (upd e d (.pointer (a.map fun z => ⟨z.block, z.off + j * sz, none⟩))) w) : Plan P n K (⟨i, true, ⟨some d, .indexAddr t x y, ty, pos, aft, gd⟩, g⟩ :: l) O e w := Plan.idxLV hX ha hg hx hy hj h
/-- an element's own bytes, as a view -/
theorem Plan.slLO (hst : St B w0 L w) {t : TypeId} {x : Operand} {len cap j sz : Nat} {a : Option Addr} {pb : Option Nat} {F : Nat → Value} {X : List D.α} (dflt : D.α) (k : Nat) (hO : LO D [] a pb len cap F X) (hsz : D.sz = sz) (f : D.α → Nat → Byte) (hE : ∀ b y, D.E b y = [(sz, fun q => VU .u8 (f y q))]) (hck : ∀ v, D.ck v → ∃ c : Byte, v = VU .u8 c) (ha : arrB P t sz 1 = true) (hg : wantedE n e g = true) (hx : ev n e x = .pointer (a.map fun z => ⟨z.block, z.off + j * sz, none⟩)) (hj : j < len)
    (hL : L[k]? = some ⟨pb, 0, cap * sz, F, true⟩) (h0 : 0 < sz)
    (h : ∀ (G : Nat → Byte), LO D [] a pb len cap (fun q => VU .u8 (G q)) X → St B w0 (L.set k ⟨pb, 0, cap * sz, fun q => VU .u8 (G q), true⟩) w → Bx (L.set k ⟨pb, 0, cap * sz, fun q => VU .u8 (G q), true⟩) k (a.map fun z => ⟨z.block, z.off + j * sz, none⟩) sz sz (dl sz (f (X.getD j dflt))) →
      Plan P n K l O (upd e d (.slice (a.map fun z => ⟨z.block, z.off + j * sz, none⟩) sz sz)) w) :
    Plan P n K (⟨i, true, ⟨some d, .slice t x none none none, ty, pos, aft, gd⟩, g⟩ :: l) O e w := by
  subst hsz
  have hOc := hO.hc
  have hk : k < L.length := (List.getElem?_eq_some_iff.1 hL).1
  obtain ⟨b, rfl, rfl⟩ := hO.ho.pos (by omega)
  have hG : ∃ G : Nat → Byte, ∀ q, q < cap * D.sz → F q = VU .u8 (G q) := by
    exact ⟨fun q => Classical.epsilon fun c : Byte => F q = VU .u8 c, fun q hq => Classical.epsilon_spec (hck _ (hO.hK q hq))⟩
  obtain ⟨G, hG⟩ := hG
  have hsub : ∀ j k, j < len → k < D.sz → j * D.sz + k < cap * D.sz := fun j k hj hk => by
    have : (j + 1) * D.sz ≤ cap * D.sz := Nat.mul_le_mul_right _ (by omega)
    rw [Nat.succ_mul] at this
    omega
  have hO' : LO D [] (some ⟨b, 0, none⟩) (some b) len cap (fun q => VU .u8 (G q)) X := ⟨hO.ho, hO.hc, hO.hl, fun j x hx => by
    have hj : j < len := by rw [← hO.hl]; exact (List.getElem?_eq_some_iff.1 hx).1
    exact (hO.hF j x hx).congr fun q hq => hG _ (hsub j q hj hq), fun q hq => by rw [← hG q hq]; exact hO.hK q hq⟩
  have hst' : St B w0 (L.set k ⟨some b, 0, cap * D.sz, fun q => VU .u8 (G q), true⟩) w := by
    have h2 : L.set k ⟨some b, 0, cap * D.sz, F, true⟩ = L := by
      obtain ⟨hk, hLk⟩ := List.getElem?_eq_some_iff.1 hL
      rw [← hLk]; exact List.set_getElem_self hk
    have h3 : St B w0 (L.set k ⟨some b, 0, cap * D.sz, F, true⟩) w := by rw [h2]; exact hst
    exact h3.congr_set hG
  refine Plan.slArr (b := b) (o := 0 + j * D.sz) (lo := 0) (hi := D.sz) ha hg (by rw [hx]; rfl) rfl rfl ⟨Nat.zero_le _, Nat.le_refl _, h0⟩ ?_
  have := h G hO' hst' ⟨dl_length _ _, Nat.le_refl _, fun _ => ⟨0, cap * D.sz, j * D.sz, 0 + j * D.sz, some b, G, true, by rw [List.getElem?_set_self hk], fun _ => ⟨b, rfl, rfl⟩, rfl, by have := hsub j (D.sz - 1) hj (by omega); omega, fun q hq => ?_⟩⟩
  · simpa using this
  · rw [lit_dl _ hq]
    obtain ⟨bb, _, hc⟩ := hO'.hF j _ (getD_of (by rw [hO.hl]; exact hj) dflt)
    have h5 := hc q (VU .u8 (f (X.getD j dflt) q)) (by rw [hE, catL_one]; simp [hq])
    have h6 : (VU .u8 (G (j * D.sz + q)) : Value) = VU .u8 (f (X.getD j dflt) q) := h5
    have h7 : ((G (j * D.sz + q)).toNat : Int) = ((f (X.getD j dflt) q).toNat : Int) := by injection h6
    exact (BitVec.eq_of_toNat_eq (by omega)).symm
/-- a part of a view -/
theorem Plan.slLV {t : TypeId} {x : Operand} {ix len cap lo hi sz : Nat} {a : Option Addr} {X : List D.α} {low high : Option Operand} (hX : LV D L ix a len cap X) (hsz : D.sz = sz) (ha : slB P t sz = true) (hg : wantedE n e g = true) (hx : ev n e x = .slice a len cap)
    (hlo : match low with | some y => ∃ k, ev n e y = .int k (lo : Int) | none => lo = 0) (hhi : match high with | some y => ∃ k, ev n e y = .int k (hi : Int) | none => hi = len) (hb : lo ≤ hi ∧ hi ≤ len)
    (h : ∀ a' c', LV D L ix a' (sgl X lo hi).length c' (sgl X lo hi) → Plan P n K l O (upd e d (.slice a' (sgl X lo hi).length c')) w) : Plan P n K (⟨i, true, ⟨some d, .slice t x low high none, ty, pos, aft, gd⟩, g⟩ :: l) O e w := by
  subst hsz
  have h1 := hX.sgl hb
  have h2 : (sgl X lo hi).length = hi - lo := h1.hl
  refine Plan.slSl ha hg hx hlo hhi (by have := hX.le; omega) ?_
  rw [← h2] at h1 ⊢
  exact h _ _ h1
theorem LV.two {L L' : List Rg} (hf : D.flat) {i i1 i2 j1 j2 : Nat} {a : Option Addr} {len cc : Nat} {X : List D.α} {r1 r2 : Rg} (h : LV D L i a len cc X) (hi : i = i1 ∨ i = i2) (h1 : L[i1]? = some r1) (h2 : L[i2]? = some r2) (k1 : L'[j1]? = some r1) (k2 : L'[j2]? = some r2) : LV D L' (if i = i1 then j1 else j2) a len cc X := by
  by_cases h0 : i = i1
  · rw [if_pos h0]; exact h.move hf (by rw [h0]; exact h1) k1
  · rw [if_neg h0]; exact h.move hf (by rw [hi.resolve_left h0]; exact h2) k2
/-- append; the slice as it was is a view from then on -/
theorem Plan.appendLK (hst : St B w0 L w) {t t' el' : TypeId} {x y : Operand} {len cap m cy iy sz by' : Nat} {a ay : Option Addr} {pb : Option Nat} {F : Nat → Value} {X Y : List D.α} {z : Value} (bb : D.β) (zx : D.α) (k : Nat) (hfl : D.flat) (hO : LO D [] a pb len cap F X) (hsz : D.sz = sz) (he : elD P t = some (sz, by', some z)) (hzc : z.cells.toList = catL (D.E bb zx)) (ht' : P.underlying t' = some (.slice el')) (hg : wantedE n e g = true)
    (hx : ev n e x = .slice a len cap) (hy : ev n e y = .slice ay m cy) (hL : L[k]? = some ⟨pb, 0, cap * sz, F, true⟩) (hY : LV D L iy ay m cy Y) (hb : (len + m) * by' ≤ 140737488355328) (h63 : len + m < 9223372036854775808)
    (hw : ∀ q r, EffO aft O (q :: L.set k r) O')
    (h : ∀ a' pb' cap' (F' : Nat → Value) r iz w', LO D [] a' pb' (X ++ Y).length cap' F' (X ++ Y) → (iz = 0 ∨ iz = k + 1) → LV D (⟨pb', 0, cap' * sz, F', true⟩ :: L.set k r) iz a len cap X → St B w0 (⟨pb', 0, cap' * sz, F', true⟩ :: L.set k r) w' → Plan P n K l O' (updO e (some d) (.slice a' (X ++ Y).length cap')) w') :
    Plan P n K (⟨i, false, ⟨some d, .call ⟨.builtin .append, #[x, y], #[t, t']⟩, ty, pos, aft, gd⟩, g⟩ :: l) O e w := by
  subst hsz
  have hzs : z.cells.size = D.sz := by rw [← Array.length_toList, hzc, D.hlen]
  obtain ⟨gg, hsrc, hgg⟩ := Src.ofLV hst ht' hY
  obtain ⟨w', a', pb', cap', ip, r, hr, ho', ⟨hcap, _⟩, hst', hcase⟩ := run_appendK (P := P) (ty := ty) (zf := fun q => z.cells[q]!) hst (elB_of he) hzs (fun q hq => rfl) hL hO.ho hsrc hO.hc hb h63
  have hk : k < L.length := (List.getElem?_eq_some_iff.1 hL).1
  have hl : (X ++ Y).length = len + m := by rw [List.length_append, hO.hl, hY.hl]
  have hin0 : ∀ {c j k : Nat}, j < c → k < D.sz → j * D.sz + k < c * D.sz := fun {c j k} hj hk => by
    have : (j + 1) * D.sz ≤ c * D.sz := Nat.mul_le_mul_right _ hj
    rw [Nat.succ_mul] at this
    omega
  have hLO : LO D [] a' pb' (len + m) cap' (fun q => if ip = true ∨ q < (len + m) * D.sz then spl F (len * D.sz) (m * D.sz) gg q else z.cells[q % D.sz]!) (X ++ Y) := by
    refine ⟨ho', hcap, hl, fun j x hx => ?_, app_ck hO hzc hY.hl hgg (fun hip => ?_)⟩
    rotate_left
    · rcases hcase with ⟨_, _, _, h5⟩ | ⟨h5, _⟩
      · omega
      · rw [h5] at hip; cases hip
    have hj : j < len + m := by rw [← hl]; exact (List.getElem?_eq_some_iff.1 hx).1
    by_cases h1 : j < X.length
    · rw [List.getElem?_append_left h1] at hx
      refine (hO.hF j x hx).congr fun k hk => ?_
      rw [if_pos (.inr (hin0 hj hk)), spl_out]
      rintro ⟨h2, _⟩
      have := hin0 (c := len) (j := j) (k := k) (by rw [hO.hl] at h1; exact h1) hk
      omega
    · rw [List.getElem?_append_right (by omega)] at hx
      obtain ⟨b, s1, s2⟩ := hgg _ x hx
      refine EL.cells.congr ⟨b, hfl _ _ b x s1, s2⟩ fun k hk => ?_
      have e1 : j * D.sz = len * D.sz + (j - X.length) * D.sz := by rw [← Nat.add_mul, hO.hl]; congr 1; rw [hO.hl] at h1; omega
      have e2 : (j - X.length) * D.sz + k < m * D.sz := by
        have := hin0 hj hk
        rw [Nat.add_mul] at this
        omega
      rw [if_pos (.inr (hin0 hj hk)), spl_in _ _ _ _ _ ⟨by omega, by omega⟩]
      congr 1; omega
  have hview : ∃ iz, (iz = 0 ∨ iz = k + 1) ∧ LV D (⟨pb', 0, cap' * D.sz, fun q => if ip = true ∨ q < (len + m) * D.sz then spl F (len * D.sz) (m * D.sz) gg q else z.cells[q % D.sz]!, true⟩ :: L.set k r) iz a len cap X := by
    rcases hcase with ⟨h1, h2, h3, h4⟩ | ⟨_, h1⟩
    · subst h1 h2 h3 h4
      refine ⟨0, .inl rfl, LO.lv (L0 := []) ⟨hO.ho, hO.hc, hO.hl, fun j x hx => ?_, hLO.hK⟩ (fun b x h => hfl _ _ b x h) 0 rfl⟩
      refine (hO.hF j x hx).congr fun q hq => ?_
      have hj : j < len := by rw [← hO.hl]; exact (List.getElem?_eq_some_iff.1 hx).1
      rw [if_pos (.inl rfl), spl_out]
      rintro ⟨h2, _⟩
      have := hin0 (k := q) hj hq
      omega
    · subst h1
      refine ⟨k + 1, .inr rfl, LO.lv hO (fun b x h => hfl _ _ b x h) (k + 1) ?_⟩
      rw [List.getElem?_cons_succ, List.getElem?_set_self hk]
  obtain ⟨iz, hiz, hV⟩ := hview
  refine Plan.effS hg (w' := w') (v := .slice a' (X ++ Y).length cap') (run_blt2 fun c => ?_) hst' (hw _ _) fun w' hw' => h a' pb' cap' _ r iz w' ?_ hiz hV hw'
  · rw [hx, hy]
    simp only [builtin, Sem.run_bind, hr, hl]
    rfl
  · rw [hl]; exact hLO
/-- a sum and a sign that go round -/
def w64 (z : Int) : Int := (z + 9223372036854775808) % 18446744073709551616 - 9223372036854775808
theorem wrap_w64 (z : Int) : IntKind.i64.wrap z = w64 z := by rw [IntKind.wrap_i64]; unfold w64; omega
theorem Plan.addW {t yt : TypeId} {x y : Operand} {a b : Int} (hg : wantedE n e g = true) (hx : ev n e x = .int .i64 a) (hy : ev n e y = .int .i64 b)
    (h : Plan P n K l O (upd e d (.int .i64 (w64 (a + b)))) w) : Plan P n K (⟨i, true, ⟨some d, .binOp .add t x y yt, ty, pos, aft, gd⟩, g⟩ :: l) O e w :=
  Plan.arith hg hx hy (wrap_w64 _) h
theorem Plan.negW {t : TypeId} {x : Operand} {a : Int} (hg : wantedE n e g = true) (hx : ev n e x = .int .i64 a)
    (h : Plan P n K l O (upd e d (.int .i64 (w64 (-a)))) w) : Plan P n K (⟨i, true, ⟨some d, .unOp .neg t x, ty, pos, aft, gd⟩, g⟩ :: l) O e w :=
  Plan.val hg (fun w => run_v (by
    rw [hx]
    show (Op.intArith .sub .i64 0 a).run P w = _
    simp only [Op.intArith]
    rw [show (0 : Int) - a = -a by omega, wrap_w64]; rfl)) h
/-- the number that is not below nought -/
theorem fold_w64 {n : Int} (h : -9223372036854775808 ≤ n ∧ n ≤ 9223372036854775807) : 0 ≤ max n (w64 (-(w64 (n + 1)))) := by unfold w64; omega
theorem wf_has {n : Int} (h : IntKind.i64.has n) : -9223372036854775808 ≤ n ∧ n ≤ 9223372036854775807 := by
  simp [IntKind.has, IntKind.min, IntKind.max, IntKind.signed, IntKind.bits] at h; omega
/-- strings, one behind the other -/
theorem Plan.addStr {t yt : TypeId} {x y : Operand} {X Y : List Byte} (hb : X.length + Y.length ≤ 9223372036854775807) (hg : wantedE n e g = true) (hx : ev n e x = .string (strL X)) (hy : ev n e y = .string (strL Y))
    (h : Plan P n K l O (upd e d (.string (strL (X ++ Y)))) w) : Plan P n K (⟨i, true, ⟨some d, .binOp .add t x y yt, ty, pos, aft, gd⟩, g⟩ :: l) O e w :=
  Plan.val hg (fun w => run_v (by
    rw [hx, hy]
    have hq : (eqGuard .add t x y (.string (strL X)) (.string (strL Y))).run P w = .ok () w := rfl
    rw [Sem.run_bind, hq]
    show (Op.stringOp .add (strL X) (strL Y)).run P w = _
    have e1 : ∀ Z : List Byte, (strL Z).size = Z.length := fun Z => by
      unfold strL
      have := congrArg List.length (strOfNums_data (Z.map fun b => (b.toNat : Int)))
      simpa using this
    have e2 : strL X ++ strL Y = strL (X ++ Y) := by
      apply ByteArray.ext
      apply Array.toList_inj.1
      rw [ByteArray.data_append, Array.toList_append]
      unfold strL
      rw [strOfNums_data, strOfNums_data, strOfNums_data, List.map_append, List.map_append]
    simp only [Op.stringOp, e1]
    rw [if_neg (by show ¬ _ > (9223372036854775807 : Int); omega), e2]
    rfl)) h
end step
end Go.LW

/-
  ENGINE X, PART 10 (own work): the library's room of whatever bytes.
-/
namespace Go.LW
set_option linter.unusedSimpArgs false
set_option linter.unusedVariables false
set_option linter.unusedSectionVars false
open Go Go.RowKit

theorem digits_u8 : ∀ (n t : Nat) (acc : Array Value), (∀ (q : Nat) (v : Value), acc[q]? = some v → ∃ x : Byte, v = VU .u8 x) → ∀ (q : Nat) (v : Value), (Extern.BytealgMakeNoZero.digits n t acc)[q]? = some v → ∃ x : Byte, v = VU .u8 x
  | 0, _, _, h => h
  | n + 1, t, acc, h => by
    refine digits_u8 n (t / 256) _ fun q v hv => ?_
    rw [Array.getElem?_push] at hv
    split at hv
    · obtain rfl := Option.some.inj hv
      refine ⟨BitVec.ofNat 8 t, ?_⟩
      show Value.int .u8 _ = Value.int .u8 _
      congr 1
    · exact h q v hv
theorem run_mkNZ {P : Program} (w : World) (ps : Array TypeId) (t e : TypeId) (ht : P.underlying t = some (.slice e)) (n : Nat) (hn : n ≤ 281474976710656) :
    ∃ (c : Nat) (F : Nat → Byte), (Extern.BytealgMakeNoZero.makeNoZero ps #[t] #[.int .i64 n]).run P w = .ok (.slice (some ⟨w.heap.size, 0, none⟩) n c) (w.drew.drew.alloc (.cells (catL [(c, fun q => VU .u8 (F q))]).toArray e)) ∧ n ≤ c := by
  have hdef : Extern.BytealgMakeNoZero.makeNoZero ps #[t] #[.int .i64 n] =
      (do
        let .slice elem ← underlying t | stuck "bytealg.MakeNoZero: slice type expected"
        if (n : Int) < 0 || (n : Int) > 2 ^ 48 then runtimePanic (.error "makeslice: len out of range")
        let cap ← choose (.appendCap (n : Int).toNat 0 elem)
        askRoom cap
        let bytes ← choose (.extern "internal/bytealg.MakeNoZero.bytes" 0)
        let a ← newRow elem (Extern.BytealgMakeNoZero.digits cap bytes #[])
        pure (.slice (some a) (n : Int).toNat cap)) := rfl
  obtain ⟨cs, hcs, hsz⟩ : ∃ cs : Array Value, cs = Extern.BytealgMakeNoZero.digits (grownCap w n 0 e) ((Question.extern "internal/bytealg.MakeNoZero.bytes" 0).cut (w.tape (w.drawn + 1) (.extern "internal/bytealg.MakeNoZero.bytes" 0))) #[] ∧ cs.size = grownCap w n 0 e :=
    ⟨_, rfl, by rw [Lib.size_digits]; simp⟩
  have hu : ∀ (q : Nat) (v : Value), cs[q]? = some v → ∃ x : Byte, v = VU .u8 x := by
    rw [hcs]; exact digits_u8 _ _ _ (fun q v h => by simp at h)
  classical
  have hF : ∃ F : Nat → Byte, ∀ (q : Nat) (v : Value), cs[q]? = some v → v = VU .u8 (F q) := by
    refine ⟨fun q => if h : ∃ x : Byte, cs[q]? = some (VU .u8 x) then h.choose else 0#8, fun q v hv => ?_⟩
    obtain ⟨x, rfl⟩ := hu q v hv
    have h : ∃ x : Byte, cs[q]? = some (VU .u8 x) := ⟨x, hv⟩
    show _ = VU IntKind.u8 (if h : ∃ x : Byte, cs[q]? = some (VU .u8 x) then h.choose else 0#8)
    rw [dif_pos h]
    have h2 := h.choose_spec
    exact Option.some.inj (hv.symm.trans h2)
  obtain ⟨F, hF⟩ := hF
  have hc : (catL [(grownCap w n 0 e, fun q => VU .u8 (F q))]).toArray = cs := by
    rw [catL_one]
    apply Array.ext'
    apply List.ext_getElem?
    intro q
    by_cases hq : q < grownCap w n 0 e
    · rw [List.getElem?_map, List.getElem?_range hq]
      have h1 : cs[q]? = some cs[q] := Array.getElem?_eq_getElem (by omega)
      have h2 := hF q _ h1
      rw [← Array.getElem?_toList, ] at h1
      rw [h1, h2]; rfl
    · rw [List.getElem?_eq_none (by simpa using hq), List.getElem?_eq_none (by rw [Array.length_toList]; omega)]
  refine ⟨grownCap w n 0 e, F, ?_, by simpa using grownCap_ge w n 0 e⟩
  rw [hc, hcs, hdef]
  have h1 : ¬ (n : Int) < 0 := by omega
  have h2 : ¬ (281474976710656 : Int) < (n : Int) := by omega
  simp [run_underlying ht, h1, h2, Question.forced, newRow, grownCap]
/-! what an effect waits for is no longer pending -/
theorem Filt.nil {aft : Array Edge} : ([] : Pend).filter (fun p => !waitsA aft p.1) = [] := rfl
theorem Filt.drop {aft : Array Edge} {k : Nat} {S : World → Prop} {O O' : Pend} (h : waitsA aft k = true) (t : O.filter (fun p => !waitsA aft p.1) = O') : ((k, S) :: O : Pend).filter (fun p => !waitsA aft p.1) = O' := by
  rw [List.filter_cons, if_neg (by show ¬ (!waitsA aft k) = true; rw [h]; exact Bool.false_ne_true)]; exact t
theorem Filt.keep {aft : Array Edge} {k : Nat} {S : World → Prop} {O O' : Pend} (h : waitsA aft k = false) (t : O.filter (fun p => !waitsA aft p.1) = O') : ((k, S) :: O : Pend).filter (fun p => !waitsA aft p.1) = (k, S) :: O' := by
  rw [List.filter_cons, if_pos (by show (!waitsA aft k) = true; rw [h]; rfl), t]
section step
variable {P : Program} {n : Nat} {K : Pend → Env → World → Prop} {l : List It} {O O' : Pend} {e : Env} {w : World} {i ty : Nat} {d : Tmp} {pos : String} {aft : Array Edge} {gd g : Option (Nat × Bool)}
variable {B : Nat} {w0 : World} {L L' : List Rg}
theorem Plan.mkNZ (hst : St B w0 L w) {f : FuncId} {fn : Func} {x : Operand} {at' ps : Array TypeId} {t el : TypeId} {m : Nat} (hf : P.funcs[f]? = some fn) (hname : (fn.name == "runtime.NumGoroutine") = false) (hb : fn.body.isNone = true) (hn : Extern.findNext fn = none) (he : Extern.find fn = some (Extern.BytealgMakeNoZero.makeNoZero ps #[t])) (ht : P.underlying t = some (.slice el))
    (hm : m ≤ 281474976710656) (hg : wantedE n e g = true) (hx : ev n e x = VN m) (hO : ∀ r, EffO aft O (r :: L) O')
    (h : ∀ b cap (F : Nat → Byte) X w', B ≤ b → X.length = m → Ow (some ⟨b, 0, none⟩) (some b) X.length cap F X → St B w0 (⟨some b, 0, cap, fun q => VU .u8 (F q), true⟩ :: L) w' → Plan P n K l O' (updO e (some d) (.slice (some ⟨b, 0, none⟩) X.length cap)) w') :
    Plan P n K (⟨i, false, ⟨some d, .call ⟨.value (.func f), #[x], at'⟩, ty, pos, aft, gd⟩, g⟩ :: l) O e w := by
  obtain ⟨c, F, hr, hc⟩ := run_mkNZ (P := P) w ps t el ht m hm
  have hl : (dl m F).length = m := dl_length _ _
  have hOw : Ow (some ⟨w.heap.size, 0, none⟩) (some w.heap.size) (dl m F).length c F (dl m F) :=
    ⟨.inr ⟨_, rfl, rfl⟩, by rw [hl]; exact hc, rfl, fun q hq => by rw [hl] at hq; exact lit_dl F hq⟩
  refine Plan.effS hg (w' := w.drew.drew.alloc (.cells (catL [(c, fun q => VU .u8 (F q))]).toArray el)) (v := .slice (some ⟨w.heap.size, 0, none⟩) (dl m F).length c) ?_ (hst.drew.drew.alloc [(c, fun q => VU .u8 (F q))] el) (hO _) (fun w' hw' => h _ c F (dl m F) w' hst.base hl hOw hw')
  have hρ : ev n e (.func f) = .func (.func f) #[] #[] := rfl
  have h1 := run_callFunc_extern (P := P) hf hname hb hn he #[.int .i64 (m : Int)] w
  rw [hr] at h1
  simp only [execOp, resolve, hρ, Deferred.ofValue, Sem.run_bind, Sem.run_pure, Result.andThen, invoke]
  have h2 : (#[] ++ Array.map (ev n e) #[x] ++ #[] : Array Value) = #[.int .i64 (m : Int)] := by simp [hx, VN]
  rw [h2, h1, hl]
  rfl
/-- a list, from j on overlaid -/
def ovr (X : List Byte) (j cnt : Nat) (Y : List Byte) : List Byte := dl X.length (spl (lit X) j cnt (lit Y))
theorem ovr_length (X : List Byte) (j cnt : Nat) (Y : List Byte) : (ovr X j cnt Y).length = X.length := dl_length _ _
theorem Plan.copyO (hst : St B w0 L w) {t t' : TypeId} {x y : Operand} {a as : Option Addr} {pb : Option Nat} {len cap ls cs lo hi iy : Nat} {F : Nat → Byte} {X Y : List Byte} (k cnt : Nat) (hO : Ow a pb len cap F X) (hu : slB P t 1 = true) (hg : wantedE n e g = true)
    (hx : ev n e x = .slice (if cap = lo then a else a.map (·.add (lo * 1))) (hi - lo) (cap - lo)) (hy : ev n e y = .slice as ls cs) (hY : Bx L iy as ls cs Y) (hL : L[k]? = some ⟨pb, 0, cap, fun q => VU .u8 (F q), true⟩) (hb : lo ≤ hi ∧ hi ≤ len) (hcnt : cnt = min ls (hi - lo))
    (hw : ∀ r, EffO aft O (L.set k r) O')
    (h : ∀ (F' : Nat → Byte) w', Ow a pb len cap F' (ovr X lo cnt Y) → St B w0 (L.set k ⟨pb, 0, cap, fun q => VU .u8 (F' q), true⟩) w' → Plan P n K l O' (updO e (some d) (VN cnt)) w') :
    Plan P n K (⟨i, false, ⟨some d, .call ⟨.builtin .copy, #[x, y], #[t, t']⟩, ty, pos, aft, gd⟩, g⟩ :: l) O e w := by
  have hc := hO.hc
  refine Plan.copyB (jd := lo) (od := lo) hst k cnt hu hg hx hy hL (hY.bs' k hL) (fun h0 => ?_) (by omega) hcnt (by omega) (hw _) fun w' hw' => h _ w' ⟨hO.ho, hc, by rw [ovr_length]; exact hO.hl, fun q hq => ?_⟩ hw'
  · obtain ⟨b, h1, h2⟩ := hO.ho.sl hc (show 0 < len by omega)
    refine ⟨b, h1, ?_⟩
    rw [if_neg (by omega), h2]
    simp only [Option.map_some, Addr.add, Nat.mul_one, Nat.zero_add]
    by_cases h3 : lo = 0
    · subst h3; rw [if_pos rfl]
    · rw [if_neg h3]
  · unfold ovr
    rw [lit_dl _ (by rw [hO.hl]; exact hq)]
    unfold spl
    split
    · rfl
    · exact hO.hF q hq
theorem Plan.copyO0 (hst : St B w0 L w) {t t' : TypeId} {x y : Operand} {a as : Option Addr} {pb : Option Nat} {len cap ls cs iy : Nat} {F : Nat → Byte} {X Y : List Byte} (k cnt : Nat) (hO : Ow a pb len cap F X) (hu : slB P t 1 = true) (hg : wantedE n e g = true)
    (hx : ev n e x = .slice a len cap) (hy : ev n e y = .slice as ls cs) (hY : Bx L iy as ls cs Y) (hL : L[k]? = some ⟨pb, 0, cap, fun q => VU .u8 (F q), true⟩) (hcnt : cnt = min ls len)
    (hw : ∀ r, EffO aft O (L.set k r) O')
    (h : ∀ (F' : Nat → Byte) w', Ow a pb len cap F' (ovr X 0 cnt Y) → St B w0 (L.set k ⟨pb, 0, cap, fun q => VU .u8 (F' q), true⟩) w' → Plan P n K l O' (updO e (some d) (VN cnt)) w') :
    Plan P n K (⟨i, false, ⟨some d, .call ⟨.builtin .copy, #[x, y], #[t, t']⟩, ty, pos, aft, gd⟩, g⟩ :: l) O e w := by
  refine Plan.copyO (lo := 0) (hi := len) hst k cnt hO hu hg ?_ hy hY hL ⟨Nat.zero_le _, Nat.le_refl _⟩ (by rw [Nat.sub_zero]; exact hcnt) hw h
  rw [hx, Nat.sub_zero, Nat.sub_zero]
  have : (if cap = 0 then a else a.map (·.add (0 * 1))) = a := by
    split
    · rfl
    · cases a with
      | none => rfl
      | some a => simp [Addr.add]
  rw [this]
end step
end Go.LW

/-
  ENGINE X, PART 11 (own work): structs of numbers that came in.
-/
namespace Go.LW
set_option linter.unusedSimpArgs false
set_option linter.unusedVariables false
set_option linter.unusedSectionVars false
open Go Go.RowKit

inductive CkL (P : Program) (w : World) (r : Reach) (base : Nat) : List TypeId → List Value → Prop
  | nil : CkL P w r base [] []
  | cons {u : TypeId} {v : Value} {ts : List TypeId} {cs : List Value} (h : Cell.okWide P w r base u v) (t : CkL P w r base ts cs) : CkL P w r base (u :: ts) (v :: cs)
theorem CkL.of {P : Program} {w : World} {r : Reach} {base : Nat} : ∀ (ts : List TypeId) (cs : List Value), cs.length = ts.length → (∀ (i : Nat) v, cs[i]? = some v → ∃ u, ts[i]? = some u ∧ Cell.okWide P w r base u v) → CkL P w r base ts cs
  | [], [], _, _ => .nil
  | [], v :: cs, hl, _ => by simp at hl
  | u :: ts, [], hl, _ => by simp at hl
  | u :: ts, v :: cs, hl, h => by
    obtain ⟨u', hu, hv⟩ := h 0 v rfl
    obtain rfl : u = u' := Option.some.inj hu
    exact .cons hv (CkL.of ts cs (by simpa using hl) fun i x hx => h (i + 1) x hx)
/-- v: the parts ps, and what is not yet opened -/
def AggP (v : Value) (ps : List (Nat × (Nat → Value))) (cs : List Value) : Prop := v = .agg (catL ps ++ cs).toArray
theorem arg_str {P : Program} {w : World} {r : Reach} {base : Nat} {t : TypeId} {v : Value} {fs : Array Field} {ts : List TypeId} (hu : P.underlying t = some (.struct fs)) (hts : P.cellTypes P.depth t = some ts) (hc : P.cellsOf t = ts.length) (h : Value.okWide P w r base t v) :
    ∃ cs, AggP v [] cs ∧ CkL P w r base ts cs := by
  unfold Value.okWide at h
  rw [hu] at h
  obtain ⟨cs, rfl, hsz, ts', hts', _, hcell⟩ := h
  rw [hts] at hts'
  obtain rfl := Option.some.inj hts'
  refine ⟨cs.toList, by unfold AggP catL; simp, CkL.of ts cs.toList (by rw [Array.length_toList, hsz, hc]) fun i v hv => ?_⟩
  have hi : i < ts.length := by
    have := (List.getElem?_eq_some_iff.1 hv).1
    rw [Array.length_toList] at this; omega
  obtain ⟨u, hu2, hok⟩ := hcell i v (by rw [← Array.getElem?_toList]; exact hv)
  rw [Nat.mod_eq_of_lt hi] at hu2
  exact ⟨u, hu2, hok⟩
theorem CkL.many {P : Program} {w : World} {r : Reach} {base : Nat} {u : TypeId} {k : IntKind} {s : Nat} (hk : UK k s) (hku : P.underlying u = some (.int k)) : ∀ {n : Nat} {ts : List TypeId} {cs : List Value}, CkL P w r base (List.replicate n u ++ ts) cs →
    ∃ (F : Nat → BitVec s) (cs' : List Value), cs = (List.range n).map (fun q => VU k (F q)) ++ cs' ∧ CkL P w r base ts cs'
  | 0, ts, cs, h => ⟨fun _ => 0#s, cs, rfl, h⟩
  | n + 1, ts, cs, h => by
    rw [List.replicate_succ, List.cons_append] at h
    cases h with
    | cons h1 t =>
      obtain ⟨x, rfl, hx⟩ := cell_u hku h1
      obtain ⟨F, cs', rfl, h2⟩ := CkL.many hk hku t
      refine ⟨fun q => match q with | 0 => BitVec.ofInt s x | q + 1 => F q, cs', ?_, h2⟩
      rw [List.range_succ_eq_map, List.map_cons, List.map_map, List.cons_append]
      exact congrArg (· :: _) (congrArg (Value.int k) (has_u hk hx))
theorem AggP.part {P : Program} {w : World} {r : Reach} {base : Nat} {v : Value} {ps : List (Nat × (Nat → Value))} {cs : List Value} {u : TypeId} {k : IntKind} {s n : Nat} {ts : List TypeId} (hk : UK k s) (hku : P.underlying u = some (.int k)) (hv : AggP v ps cs) (h : CkL P w r base (List.replicate n u ++ ts) cs) :
    ∃ (F : Nat → BitVec s) (cs' : List Value), AggP v (ps ++ [(n, fun q => VU k (F q))]) cs' ∧ CkL P w r base ts cs' := by
  obtain ⟨F, cs', rfl, h2⟩ := CkL.many hk hku h
  refine ⟨F, cs', ?_, h2⟩
  unfold AggP at hv ⊢
  rw [hv]
  unfold catL
  simp [List.flatMap_append]
theorem AggP.num {P : Program} {w : World} {r : Reach} {base : Nat} {v : Value} {ps : List (Nat × (Nat → Value))} {cs : List Value} {u : TypeId} {k : IntKind} {s : Nat} {ts : List TypeId} (hk : UK k s) (hku : P.underlying u = some (.int k)) (hv : AggP v ps cs) (h : CkL P w r base (u :: ts) cs) :
    ∃ (X : BitVec s) (cs' : List Value), AggP v (ps ++ [(1, fun _ => VU k X)]) cs' ∧ CkL P w r base ts cs' := by
  obtain ⟨F, cs', h1, h2⟩ := AggP.part (n := 1) hk hku hv h
  refine ⟨F 0, cs', ?_, h2⟩
  unfold AggP at h1 ⊢
  rw [h1]
  unfold catL
  simp [List.flatMap_append, List.range_succ]
theorem AggP.int {P : Program} {w : World} {r : Reach} {base : Nat} {v : Value} {ps : List (Nat × (Nat → Value))} {cs : List Value} {u : TypeId} {k : IntKind} {ts : List TypeId} (hku : P.underlying u = some (.int k)) (hv : AggP v ps cs) (h : CkL P w r base (u :: ts) cs) :
    ∃ (x : Int) (cs' : List Value), k.has x ∧ AggP v (ps ++ [(1, fun _ => .int k x)]) cs' ∧ CkL P w r base ts cs' := by
  cases h with
  | cons h1 t =>
    obtain ⟨x, rfl, hx⟩ := cell_u hku h1
    refine ⟨x, _, hx, ?_, t⟩
    unfold AggP at hv ⊢
    rw [hv]
    unfold catL
    simp [List.flatMap_append, List.range_succ]
theorem AggP.bool {P : Program} {w : World} {r : Reach} {base : Nat} {v : Value} {ps : List (Nat × (Nat → Value))} {cs : List Value} {u : TypeId} {ts : List TypeId} (hku : P.underlying u = some .bool) (hv : AggP v ps cs) (h : CkL P w r base (u :: ts) cs) :
    ∃ (x : Bool) (cs' : List Value), AggP v (ps ++ [(1, fun _ => .bool x)]) cs' ∧ CkL P w r base ts cs' := by
  cases h with
  | cons h1 t =>
    rename_i v' cs'
    have : ∃ x, v' = .bool x := by
      unfold Cell.okWide at h1
      rw [hku] at h1
      cases v' <;> simp [Cell.ok, hku] at h1
      exact ⟨_, rfl⟩
    obtain ⟨x, rfl⟩ := this
    refine ⟨x, _, ?_, t⟩
    unfold AggP at hv ⊢
    rw [hv]
    unfold catL
    simp [List.flatMap_append, List.range_succ]
theorem AggP.fin {P : Program} {w : World} {r : Reach} {base : Nat} {v : Value} {ps : List (Nat × (Nat → Value))} {cs : List Value} (hv : AggP v ps cs) (h : CkL P w r base [] cs) : v = AG ps := by
  cases h
  unfold AggP at hv
  rw [hv, List.append_nil]; rfl

theorem PIn.or {O : Pend} {L : List Rg} {k : Nat} {r : Rg} (i : Nat) (h : r.n = 0 ∨ L[i]? = some r) (t : PIn O L) : PIn ((k, r.at) :: O) L := by
  rcases h with h | h
  · have e : r.at = fun _ => True := by
      funext w
      exact propext ⟨fun _ => trivial, fun _ j hj => absurd hj (by omega)⟩
    rw [e]
    exact .tru t
  · exact .cons i h t
theorem or_un {L : List Rg} {i : Nat} {r : Rg} (C : List Rg) (h : r.n = 0 ∨ (C ++ L)[i + C.length]? = some r) : r.n = 0 ∨ L[i]? = some r := h.imp_right fun h => flun h
theorem or_get {L : List Rg} {i : Nat} {r : Rg} (h : r.n = 0 ∨ L[i]? = some r) (C : List Rg) : r.n = 0 ∨ (C ++ L)[i + C.length]? = some r := h.imp_right fun h => flget h C
section step
variable {P : Program} {n : Nat} {K : Pend → Env → World → Prop} {l : List It} {O O' : Pend} {e : Env} {w : World} {i ty : Nat} {d : Tmp} {pos : String} {aft : Array Edge} {gd g : Option (Nat × Bool)}
variable {B : Nat} {w0 : World} {L L' : List Rg} {D : EL}
/-- an element that leads to more: what it leads to lies in what came in -/
theorem Plan.loadLVd (C : List Rg) (hst : St B w0 (C ++ L) w) {t : TypeId} {x : Operand} {ix len cc j sz : Nat} {a : Option Addr} {X : List D.α} (dflt : D.α) (hX : LV D L ix a len cc X) (hg : wantedE n e g = true) (hx : ev n e x = .pointer (a.map fun z => ⟨z.block, z.off + j * sz, none⟩)) (hj : j < len) (hsz : D.sz = sz) (ht : aggT P t sz = true)
    (h : ∀ b r, D.side L b (X.getD j dflt) → (C ++ L)[ix + C.length]? = some r → Plan P n K l ((i, r.at) :: O) (upd e d (AG (D.E b (X.getD j dflt)))) w) : Plan P n K (⟨i, true, ⟨some d, .load t x, ty, pos, aft, gd⟩, g⟩ :: l) O e w := by
  subst hsz
  obtain ⟨hl, hc, hX⟩ := hX
  obtain ⟨offs, ms, js, os, ps, G, rw, h1, h2, h3, h4, h5⟩ := hX (by omega)
  obtain ⟨b, hb1, hb2⟩ := h2 (by omega)
  subst hb2 hb1
  obtain ⟨bb, s1, s2⟩ := h5 j _ (getD_of (by omega) dflt)
  have h1' : (C ++ L)[ix + C.length]? = some ⟨some b, offs, ms, G, rw⟩ := by rw [List.getElem?_append_right (by omega), Nat.add_sub_cancel]; exact h1
  have hx' : ev n e x = .pointer (some ⟨b, offs + (js + j * D.sz), none⟩) := by rw [hx, ← Nat.add_assoc, ← h3]; rfl
  refine Plan.loadSub hst (ix + C.length) (js + j * D.sz) hg hx' h1' rfl (cells_at hj h4) ht ?_
  have h7 := h bb _ s1 h1'
  have e1 : AG [(D.sz, fun q => G (js + j * D.sz + q))] = AG (D.E bb (X.getD j dflt)) := by
    refine AGL_congr ?_
    rw [catL_one]
    have hlen := D.hlen bb (X.getD j dflt)
    apply List.ext_getElem?
    intro q
    by_cases hq : q < D.sz
    · have hq2 : q < (catL (D.E bb (X.getD j dflt))).length := by rw [hlen]; exact hq
      rw [List.getElem?_eq_getElem hq2, List.getElem?_map, List.getElem?_range hq]
      exact congrArg some (s2 q _ (List.getElem?_eq_getElem hq2))
    · rw [List.getElem?_eq_none (by simpa using hq), List.getElem?_eq_none (by omega)]
  rw [e1]
  exact h7
/-- an int, moved right -/
theorem Plan.shrI {t yt : TypeId} {x y : Operand} {k' : IntKind} {a : Int} {c : Nat} (hg : wantedE n e g = true) (hx : ev n e x = .int .i64 a) (hy : ev n e y = .int k' (c : Int)) (hc : c ≤ 64)
    (h : Plan P n K l O (upd e d (.int .i64 (a / 2 ^ c))) w) : Plan P n K (⟨i, true, ⟨some d, .binOp .shr t x y yt, ty, pos, aft, gd⟩, g⟩ :: l) O e w :=
  Plan.val hg (fun w => run_shift (.inr rfl) hx hy (by
    unfold Op.shift
    rw [if_neg (by omega)]
    have : (a.fdiv (2 ^ (min ((c : Int)).toNat IntKind.i64.bits))) = a / 2 ^ c := by
      rw [Int.toNat_natCast, Int.fdiv_eq_ediv_of_nonneg _ (by exact Int.pow_nonneg (by omega))]
      show (a : Int) / 2 ^ (min c 64) = _
      rw [Nat.min_eq_left hc]
    simp only [this]; rfl)) h
theorem Plan.storeI (hst : St B w0 L w) {t : TypeId} {x y : Operand} {b off j m : Nat} {kd : IntKind} {F : Nat → Int} {X : Int} (k : Nat) (hg : wantedE n e g = true) (hx : ev n e x = .pointer (some ⟨b, off + j, none⟩)) (hy : ev n e y = .int kd X)
    (hL : L[k]? = some ⟨some b, off, m, fun q => .int kd (F q), true⟩)
    (hj : j < m) (ht : szT P t 1 = true) (hO : O.all (fun p => waitsO ⟨none, .store t x y, ty, pos, aft, gd⟩ p.1) = true)
    (h : ∀ w', St B w0 (L.set k ⟨some b, off, m, fun q => .int kd (upd F j X q), true⟩) w' → Plan P n K l [] e w') : Plan P n K (⟨i, false, ⟨none, .store t x y, ty, pos, aft, gd⟩, g⟩ :: l) O e w :=
  Plan.store1 hst k hg hx hy hL hj rfl ht hO fun w' h' => h w' (by
    have : (fun q => Value.int kd (upd F j X q)) = upd (fun q => Value.int kd (F q)) j (Value.int kd X) := by
      funext q; simp only [upd_at]; split <;> rfl
    rw [this]; exact h')
theorem Plan.storeBl (hst : St B w0 L w) {t : TypeId} {x y : Operand} {b off j m : Nat} {F : Nat → Bool} {X : Bool} (k : Nat) (hg : wantedE n e g = true) (hx : ev n e x = .pointer (some ⟨b, off + j, none⟩)) (hy : ev n e y = .bool X)
    (hL : L[k]? = some ⟨some b, off, m, fun q => .bool (F q), true⟩)
    (hj : j < m) (ht : szT P t 1 = true) (hO : O.all (fun p => waitsO ⟨none, .store t x y, ty, pos, aft, gd⟩ p.1) = true)
    (h : ∀ w', St B w0 (L.set k ⟨some b, off, m, fun q => .bool (upd F j X q), true⟩) w' → Plan P n K l [] e w') : Plan P n K (⟨i, false, ⟨none, .store t x y, ty, pos, aft, gd⟩, g⟩ :: l) O e w :=
  Plan.store1 hst k hg hx hy hL hj rfl ht hO fun w' h' => h w' (by
    have : (fun q => Value.bool (upd F j X q)) = upd (fun q => Value.bool (F q)) j (Value.bool X) := by
      funext q; simp only [upd_at]; split <;> rfl
    rw [this]; exact h')
/-! bytes of a string -/
theorem strL_list (X : List Byte) : (strL X).data.toList.map (fun b => Value.int .u8 (b.toNat : Int)) = X.map fun b => VU .u8 b := by
  unfold strL
  rw [strOfNums_data, List.map_map, List.map_map]
  refine List.map_congr_left fun b _ => ?_
  have h1 : (UInt8.ofNat ((b.toNat : Int)).toNat).toNat = b.toNat := by
    rw [Int.toNat_natCast]
    simp
  show Value.int .u8 _ = Value.int .u8 _
  rw [show ((UInt8.ofNat ((b.toNat : Int)).toNat).toNat : Int) = (b.toNat : Int) by rw [h1]]
theorem strL_size (X : List Byte) : (strL X).size = X.length := by
  have := congrArg List.length (strL_list X)
  rw [List.length_map, List.length_map, Array.length_toList] at this
  exact this
theorem bytesRow_cat (X : List Byte) {c : Nat} (hc : X.length ≤ c) : bytesRow (strL X) c = (catL [(c, fun q => VU .u8 (lit X q))]).toArray := by
  rw [catL_one]
  apply Array.ext'
  unfold bytesRow
  rw [Array.toList_append, Array.toList_map, strL_list, strL_size, Array.toList_replicate]
  apply List.ext_getElem?
  intro q
  show _ = ((List.range c).map fun q => VU .u8 (lit X q))[q]?
  by_cases hq : q < c
  · rw [List.getElem?_map, List.getElem?_range hq]
    by_cases h2 : q < X.length
    · rw [List.getElem?_append_left (by simpa using h2), List.getElem?_map, List.getElem?_eq_getElem h2]
      simp [lit, List.getD, h2]
    · rw [List.getElem?_append_right (by simpa using Nat.le_of_not_lt h2), List.length_map, List.getElem?_replicate, if_pos (by omega)]
      simp [lit, List.getD, h2]
  · rw [List.getElem?_eq_none (by simp; omega), List.getElem?_eq_none (by simpa using hq)]
theorem Plan.ofStr (hst : St B w0 L w) {t t' el : TypeId} {x : Operand} {X : List Byte} (hs : P.underlying t = some .string) (hd : P.underlying t' = some (.slice el)) (he : P.underlying el = some (.int .u8)) (hg : wantedE n e g = true) (hx : ev n e x = .string (strL X))
    (hO : ∀ r, EffO aft O (r :: L) O')
    (h : ∀ b cap w', B ≤ b → Ow (some ⟨b, 0, none⟩) (some b) X.length cap (lit X) X → St B w0 (⟨some b, 0, cap, fun q => VU .u8 (lit X q), true⟩ :: L) w' → Plan P n K l O' (updO e (some d) (.slice (some ⟨b, 0, none⟩) X.length cap)) w') :
    Plan P n K (⟨i, false, ⟨some d, .convert t t' x, ty, pos, aft, gd⟩, g⟩ :: l) O e w := by
  have hr := run_bytes_of_string (P := P) w t t' el (strL X) hs hd he
  have hge : X.length ≤ grownCap w (strL X).size 0 el := by
    have := grownCap_ge w (strL X).size 0 el
    rw [strL_size] at this ⊢
    omega
  rw [bytesRow_cat X hge] at hr
  generalize hc : grownCap w (strL X).size 0 el = c at hr hge
  have hsz : ((catL [(c, fun q => VU .u8 (lit X q))]).toArray).size = c := by rw [catL_one]; simp
  have hst1 := hst.drew.alloc [(c, fun q => VU .u8 (lit X q))] el
  have hnew : (w.drew.alloc (.cells (catL [(c, fun q => VU .u8 (lit X q))]).toArray el)).heap[w.heap.size]? = some (.cells (catL [(c, fun q => VU .u8 (lit X q))]).toArray el (0, 0)) := heap_alloc_new _ _
  have hst2 := hst1.freezeC (b := w.heap.size) hst.base hnew
  have hw : (w.drew.alloc (.cells (catL [(c, fun q => VU .u8 (lit X q))]).toArray el)).freeze ⟨w.heap.size, ((catL [(c, fun q => VU .u8 (lit X q))]).toArray).size, none⟩ 1 = w.drew.alloc (.cells (catL [(c, fun q => VU .u8 (lit X q))]).toArray el (((catL [(c, fun q => VU .u8 (lit X q))]).toArray).size, ((catL [(c, fun q => VU .u8 (lit X q))]).toArray).size + 1)) := by
    have hm : ∀ (a : Array Obj) (x : Obj) (f : Obj → Obj), (a.push x).modify a.size f = a.push (f x) := by
      intro a x f
      apply Array.ext
      · simp
      · intro i h1 h2
        simp only [Array.getElem_modify, Array.getElem_push]
        by_cases h : a.size = i
        · subst h; simp
        · have hi : i < a.size := by simp at h1; omega
          simp [h, hi]
    generalize (catL [(c, fun q => VU .u8 (lit X q))]).toArray = C
    unfold World.freeze
    rw [if_neg (by decide)]
    show ({ w.drew.alloc (.cells C el) with heap := (w.heap.push (.cells C el)).modify w.heap.size _ } : World) = _
    rw [hm]
    rfl
  rw [hw] at hst2
  have hOw : Ow (some ⟨w.heap.size, 0, none⟩) (some w.heap.size) X.length c (lit X) X := ⟨.inr ⟨_, rfl, rfl⟩, hge, rfl, fun q _ => rfl⟩
  refine Plan.effS hg (v := .slice (some ⟨w.heap.size, 0, none⟩) X.length c) (run_v ?_) hst2 (hO _) (fun w' hw' => h _ c w' hst.base hOw hw')
  rw [hx, hr, strL_size]
end step
end Go.LW

/-
  ENGINE X, PART 12 (own work): slices of structs that came in, opened cell by cell.
-/
namespace Go.LW
set_option linter.unusedSimpArgs false
set_option linter.unusedVariables false
set_option linter.unusedSectionVars false
open Go Go.RowKit

inductive Leaf (P : Program) (w : World) (M : Nat) : TypeId → Value → Prop
  | int {u : TypeId} {k : IntKind} {n : Int} (hu : P.underlying u = some (.int k)) (h : (Lit.int k n).wf = true) : Leaf P w M u (.int k n)
  | bool {u : TypeId} {b : Bool} (hu : P.underlying u = some .bool) : Leaf P w M u (.bool b)
  | bytes {u e : TypeId} {a : Option Addr} {len cap : Nat} {zs : List Int} (hu : P.underlying u = some (.slice e)) (he : P.underlying e = some (.int .u8)) (h : IsRow .u8 w a len cap zs) (hb : cap ≤ M) : Leaf P w M u (.slice a len cap)
inductive LfL (P : Program) (w : World) (M : Nat) : List TypeId → List Value → Prop
  | nil : LfL P w M [] []
  | cons {u : TypeId} {v : Value} {ts : List TypeId} {cs : List Value} (h : Leaf P w M u v) (t : LfL P w M ts cs) : LfL P w M (u :: ts) (v :: cs)
theorem LfL.append {P : Program} {w : World} {M : Nat} {ts ts' : List TypeId} {cs cs' : List Value} (h : LfL P w M ts cs) (h' : LfL P w M ts' cs') : LfL P w M (ts ++ ts') (cs ++ cs') := by
  induction h with
  | nil => exact h'
  | cons h _ ih => exact .cons h ih
theorem LfL.length {P : Program} {w : World} {M : Nat} {ts : List TypeId} {cs : List Value} (h : LfL P w M ts cs) : cs.length = ts.length := by
  induction h with
  | nil => rfl
  | cons _ _ ih => rw [List.length_cons, List.length_cons, ih]

def fieldsL (P : Program) (lf : TypeId → Option (List TypeId)) : List Field → Nat → Option (List TypeId)
  | [], _ => some []
  | f :: fs, o => if f.offset = o then
      match lf f.type with
      | some l => if P.cellsOf f.type = l.length then (fieldsL P lf fs (o + l.length)).map (l ++ ·) else none
      | none => none
    else none
def leafs (P : Program) : Nat → TypeId → Option (List TypeId)
  | 0, _ => none
  | n + 1, t => match P.underlying t with
    | some (.int _) => some [t]
    | some .bool => some [t]
    | some (.slice e) => match P.underlying e with
      | some (.int .u8) => if P.cellsOf e = 1 ∧ P.bytesOf e = 1 then some [t] else none
      | _ => none
    | some (.struct fs) => match fieldsL P (leafs P n) fs.toList 0 with
      | some l => if P.cellsOf t = l.length then some l else none
      | none => none
    | some (.array m e) => match leafs P n e with
      | some l => if P.cellsOf e = l.length ∧ P.cellsOf t = m * l.length then some (List.replicate m l).flatten else none
      | none => none
    | _ => none
/-- what is asked of every datum on the way down to the bytes, whose length is at most M then -/
structure KClosed {H : Type} (P : Program) (M : Nat) (K : TypeId → DataW H → Prop) : Prop where
  bytes : ∀ t e (xs ys : List (DataW H)), P.underlying t = some (.slice e) → P.bytesOf e = 1 → K t (.slice xs ys) → xs.length + ys.length ≤ M
  part : ∀ (t : TypeId) (fs : Array Field) (xs : List (DataW H)) (j : Nat) (f : Field) (x : DataW H), P.underlying t = some (.struct fs) → K t (.agg xs) → fs[j]? = some f → xs[j]? = some x → K f.type x
  arr : ∀ (t : TypeId) (k : Nat) (e : TypeId) (xs : List (DataW H)) (j : Nat) (x : DataW H), P.underlying t = some (.array k e) → K t (.agg xs) → xs[j]? = some x → K e x
  elem : ∀ (t e : TypeId) (xs ys : List (DataW H)) (j : Nat) (x : DataW H), P.underlying t = some (.slice e) → K t (.slice xs ys) → xs[j]? = some x → K e x
  spare : ∀ (t e : TypeId) (xs ys : List (DataW H)) (j : Nat) (x : DataW H), P.underlying t = some (.slice e) → K t (.slice xs ys) → ys[j]? = some x → K e x
theorem weights_all {H : Type} {P : Program} {e : TypeId} : ∀ {xs : List (DataW H)} {i : Nat} {d : DataW H}, xs[i]? = some d → ∀ n ∈ d.weights P e, n ∈ DataW.weightsAll P e xs
  | [], _, _, h, _, _ => by rw [List.getElem?_nil] at h; cases h
  | d0 :: r, 0, d, h, n, hn => by
    obtain rfl : d0 = d := Option.some.inj h
    rw [DataW.weightsAll]; exact List.mem_append_left _ hn
  | d0 :: r, i + 1, d, h, n, hn => by
    rw [DataW.weightsAll]; exact List.mem_append_right _ (weights_all (by simpa using h) n hn)
/-- the form's own reach -/
theorem reachK {H : Type} {P : Program} : KClosed P reachBytes (fun t (d : DataW H) => ∀ n ∈ d.weights P t, n ≤ reachBytes) := by
  refine ⟨fun t e xs ys hu hb h => ?_, fun t fs xs j f x hu h hf hx n hn => h n ?_, fun t k e xs j x hu h hx n hn => h n ?_, fun t e xs ys j x hu h hx n hn => h n ?_, fun t e xs ys j x hu h hx n hn => h n ?_⟩
  · have := h ((xs.length + ys.length) * P.bytesOf e) (by rw [DataW.weights, hu]; exact List.mem_cons_self)
    rw [hb, Nat.mul_one] at this
    exact this
  · rw [DataW.weights, hu]
    exact DataW.weights_mem_each (j := j) (t := f.type) (d := x) (by rw [List.getElem?_map, Array.getElem?_toList, hf]; rfl) hx n hn
  · rw [DataW.weights, hu]
    exact weights_all hx n hn
  · rw [DataW.weights, hu]
    exact List.mem_cons_of_mem _ (List.mem_append_left _ (weights_all hx n hn))
  · rw [DataW.weights, hu]
    exact List.mem_cons_of_mem _ (List.mem_append_right _ (weights_all hx n hn))
section
variable {H : Type} {enc : TypeId × Value → H} {P : Program} {w : World} {M : Nat} {held : Bool} {K : TypeId → DataW H → Prop}
theorem fieldsL_ok {lf : TypeId → Option (List TypeId)} {m : Nat} {cs : List Value} (hlf : ∀ t ts, lf t = some ts → ∀ cs x, DataW.trod enc P w 0 (fun _ => true) held m t cs = some x → K t x.1 → LfL P w M ts cs) :
    ∀ (fs : List Field) (o : Nat) (l : List TypeId), fieldsL P lf fs o = some l → (∀ f ∈ fs, ∃ x, DataW.trod enc P w 0 (fun _ => true) held m f.type ((cs.drop f.offset).take (P.cellsOf f.type)) = some x ∧ K f.type x.1) → LfL P w M l ((cs.drop o).take l.length)
  | [], o, l, h, _ => by
    obtain rfl : [] = l := by simpa [fieldsL] using h
    exact .nil
  | f :: fs, o, l, h, hx => by
    unfold fieldsL at h
    split at h
    · rename_i ho
      split at h
      · rename_i l1 hl1
        split at h
        · rename_i hc
          obtain ⟨l2, h2, rfl⟩ := Option.map_eq_some_iff.1 h
          obtain ⟨x, hx1, hx2⟩ := hx f List.mem_cons_self
          have a1 := hlf _ _ hl1 _ _ hx1 hx2
          rw [ho, hc] at a1
          have a2 := fieldsL_ok hlf fs (o + l1.length) l2 h2 (fun g hg => hx g (List.mem_cons_of_mem _ hg))
          rw [List.length_append, List.take_add, List.drop_drop]
          exact a1.append a2
        · cases h
      · cases h
    · cases h
theorem leafs_ok (hK : KClosed P M K) : ∀ (n : Nat) (t : TypeId) (ts : List TypeId), leafs P n t = some ts → ∀ (m : Nat) (cs : List Value) (x : DataW H × List MemPlace), DataW.trod enc P w 0 (fun _ => true) held m t cs = some x → K t x.1 → LfL P w M ts cs
  | 0, t, ts, h, _, _, _, _, _ => by simp [leafs] at h
  | n + 1, t, ts, h, m, cs, x, hx, hwt => by
    unfold leafs at h
    split at h
    · rename_i k hu
      obtain rfl : [t] = ts := Option.some.inj h
      obtain ⟨z, rfl, _, hw⟩ := DataW.trod_int hu hx
      exact .cons (.int hu hw) .nil
    · rename_i hu
      obtain rfl : [t] = ts := Option.some.inj h
      obtain ⟨b, rfl, _⟩ := DataW.trod_bool hu hx
      exact .cons (.bool hu) .nil
    · rename_i e hu
      split at h
      · rename_i he
        split at h
        · rename_i hc
          obtain rfl : [t] = ts := Option.some.inj h
          rcases Go.ChangeShapes.open_ints hu he hc.1 hx with ⟨rfl, _⟩ | ⟨a, l, c, zs, rfl, _, hl, hm, hz, hxx, hcell, hwz⟩
          · exact .cons (.bytes (zs := []) hu he (.inl ⟨rfl, rfl, rfl, rfl⟩) (Nat.zero_le _)) .nil
          · have hz' : zs.length = c := by simpa using hz
            rw [hxx] at hwt
            have hr := hK.bytes t e _ _ hu hc.2 hwt
            have hln : ∀ zs : List Int, (Go.ChangeShapes.lits (H := H) .u8 zs).length = zs.length := fun zs => by simp [Go.ChangeShapes.lits]
            rw [hln, hln, List.length_take, List.length_drop] at hr
            exact .cons (.bytes hu he (.inr ⟨_, rfl, hl, hm, hz', hcell, hwz⟩) (by omega)) .nil
        · cases h
      · cases h
    · rename_i fs hu
      split at h
      · rename_i l hl
        split at h
        · rename_i hc
          obtain rfl := Option.some.inj h
          obtain ⟨xs, m', rfl, hxx, hlen, hxs, hf⟩ := DataW.trod_struct hu hx
          have a := fieldsL_ok (cs := cs) (m := m') (fun t ts ht cs x hx hw => leafs_ok hK n t ts ht m' cs x hx hw) fs.toList 0 l hl (fun f hfm => by
            obtain ⟨i, hi⟩ := List.mem_iff_getElem?.1 hfm
            have hi2 : fs[i]? = some f := by rw [← Array.getElem?_toList]; exact hi
            have hlt : i < xs.length := by
              rw [hxs]
              exact (Array.getElem?_eq_some_iff.1 hi2).1
            refine ⟨xs[i], by rw [hf i f hi2]; exact List.getElem?_eq_getElem hlt, ?_⟩
            rw [hxx] at hwt
            exact hK.part t fs _ i f _ hu hwt hi2 (by rw [List.getElem?_map, List.getElem?_eq_getElem hlt]; rfl))
          rw [List.drop_zero, ← hc, ← hlen, List.take_length] at a
          exact a
        · cases h
      · cases h
    · rename_i k e hu
      split at h
      · rename_i l hl
        split at h
        · rename_i hc
          obtain rfl := Option.some.inj h
          obtain ⟨xs, m', rfl, hxx, hlen, hxs, hf⟩ := DataW.trod_array hu hx
          have go : ∀ i, i ≤ k → LfL P w M (List.replicate i l).flatten (cs.take (i * l.length)) := by
            intro i
            induction i with
            | zero => intro _; rw [Nat.zero_mul, List.take_zero]; exact .nil
            | succ i ih =>
              intro hi
              have a1 := leafs_ok hK n e l hl m' _ (xs[i]'(by omega)) (by rw [hf i (by omega)]; exact List.getElem?_eq_getElem (by omega)) (by
                rw [hxx] at hwt
                exact hK.arr t k e _ i _ hu hwt (by rw [List.getElem?_map, List.getElem?_eq_getElem (by omega)]; rfl))
              rw [hc.1] at a1
              rw [Nat.succ_mul, List.take_add, List.replicate_succ', List.flatten_append]
              simp only [List.flatten_cons, List.flatten_nil, List.append_nil]
              exact (ih (by omega)).append a1
          have a := go k (Nat.le_refl _)
          rw [← hc.2, ← hlen, List.take_length] at a
          exact a
        · cases h
      · cases h
    · cases h
end
/-- rows of structs that came in -/
structure LRows (P : Program) (w : World) (M : Nat) (ts : List TypeId) (a : Option Addr) (len cap : Nat) (p : Option Nat) (off : Nat) (G : Nat → Value) : Prop where
  at_ : (Rg.mk p off (cap * ts.length) G false).at w
  sl : SlV a p off len
  le : len ≤ cap
  big : cap ≤ maxLen
  el : ∀ i, i < cap → LfL P w M ts ((List.range ts.length).map fun j => G (i * ts.length + j))
theorem rows_open {H : Type} {enc : TypeId × Value → H} {P : Program} {w : World} {M : Nat} {K : TypeId → DataW H → Prop} (hK : KClosed P M K) {held : Bool} {t e : TypeId} {ts : List TypeId} {n : Nat} (hu : P.underlying t = some (.slice e)) (hl : leafs P n e = some ts) (hc : P.cellsOf e = ts.length) (h0 : 0 < ts.length) {a : Option Addr} {len cap : Nat} {m : Nat} {x : DataW H × List MemPlace}
    (h : DataW.trod enc P w 0 (fun _ => true) held m t [.slice a len cap] = some x) (hwt : K t x.1) : ∃ p off G, LRows P w M ts a len cap p off G := by
  rcases DataW.trod_slice hu h with ⟨h1, _⟩ | ⟨a', len', cap', elems, rest, n', rfl, h1, hxx, hb, hle, hmx, hlen, hel, hsp, _⟩
  · simp at h1
    obtain ⟨rfl, rfl, rfl⟩ := h1
    exact ⟨none, 0, fun _ => undef, fun j hj => absurd hj (by simp), fun h => absurd h (by omega), Nat.le_refl _, by decide, fun i hi => absurd hi (Nat.not_lt_zero i)⟩
  · simp at h1
    obtain ⟨rfl, rfl, rfl⟩ := h1
    rw [hc] at hel hsp
    obtain ⟨hrl, hr⟩ := hsp rfl
    have each : ∀ i, i < cap → ∃ cs, w.cells? 0 (a'.add (i * ts.length)) ts.length = some cs ∧ LfL P w M ts cs := fun i hi => by
      have : ∃ y, (w.cells? 0 (a'.add (i * ts.length)) ts.length).bind (DataW.trod enc P w 0 (fun _ => true) held n' e) = some y ∧ K e y.1 := by
        rw [hxx] at hwt
        by_cases h2 : i < len
        · refine ⟨elems[i]'(by omega), by rw [hel i h2]; exact List.getElem?_eq_getElem (by omega), hK.elem t e _ _ i _ hu hwt (by rw [List.getElem?_map, List.getElem?_eq_getElem (by omega)]; rfl)⟩
        · have := hr (i - len) (by omega)
          rw [show len + (i - len) = i by omega] at this
          refine ⟨rest[i - len]'(by omega), by rw [this]; exact List.getElem?_eq_getElem (by omega), hK.spare t e _ _ (i - len) _ hu hwt (by rw [List.getElem?_map, List.getElem?_eq_getElem (by omega)]; rfl)⟩
      obtain ⟨y, hy, hyw⟩ := this
      obtain ⟨cs, h3, h4⟩ := Option.bind_eq_some_iff.1 hy
      exact ⟨cs, h3, leafs_ok hK n e ts hl n' cs y h4 hyw⟩
    by_cases hz : cap = 0
    · subst hz
      exact ⟨none, 0, fun _ => undef, fun j hj => absurd hj (by simp), fun h => absurd h (by omega), by omega, by decide, fun i hi => absurd hi (Nat.not_lt_zero i)⟩
    have hcs : ∃ C : Nat → List Value, ∀ i, i < cap → w.cells? 0 (a'.add (i * ts.length)) ts.length = some (C i) ∧ LfL P w M ts (C i) :=
      ⟨fun i => if hi : i < cap then (each i hi).choose else [], fun i hi => by
        show w.cells? 0 _ _ = some (if hi : i < cap then (each i hi).choose else []) ∧ LfL P w M ts (if hi : i < cap then (each i hi).choose else [])
        rw [dif_pos hi]; exact (each i hi).choose_spec⟩
    obtain ⟨C, hC⟩ := hcs
    have hsp0 : a'.spot = none := by
      obtain ⟨h2, h3, h4⟩ := World.cells?_some (hC 0 (by omega)).1
      have h5 := h4 0 h0
      rw [Nat.zero_mul, Addr.add_zero', Addr.add_zero', List.getElem?_eq_getElem (by omega)] at h5
      exact cell_spot h5
    obtain ⟨b, o, s⟩ := a'
    simp only at hsp0
    subst hsp0
    have hget : ∀ i j, i < cap → j < ts.length → w.cell? ⟨b, o + (i * ts.length + j), none⟩ = (C i)[j]? := fun i j hi hj => by
      obtain ⟨h2, h3, h4⟩ := World.cells?_some (hC i hi).1
      have h5 := h4 j hj
      rw [Addr.add_mid, Addr.add_mid, Nat.add_assoc] at h5
      exact h5
    have hlC : ∀ i, i < cap → (C i).length = ts.length := fun i hi => (hC i hi).2.length
    refine ⟨some b, o, fun q => (C (q / ts.length)).getD (q % ts.length) undef, fun q hq => ⟨b, rfl, ?_⟩, fun _ => ⟨b, rfl, rfl⟩, hle, hmx, fun i hi => ?_⟩
    · have hq : q < cap * ts.length := hq
      have h2 : q / ts.length < cap := (Nat.div_lt_iff_lt_mul h0).2 hq
      have h3 : q % ts.length < ts.length := Nat.mod_lt _ h0
      have h4 := hget _ _ h2 h3
      rw [Nat.mul_comm, Nat.div_add_mod] at h4
      show w.cell? ⟨b, o + q, none⟩ = some ((C (q / ts.length)).getD (q % ts.length) undef)
      rw [h4, List.getD_eq_getElem?_getD, List.getElem?_eq_getElem (by rw [hlC _ h2]; exact h3)]
      rfl
    · have e : ((List.range ts.length).map fun j => (C ((i * ts.length + j) / ts.length)).getD ((i * ts.length + j) % ts.length) undef) = C i := by
        apply List.ext_getElem?
        intro j
        by_cases hj : j < ts.length
        · rw [List.getElem?_map, List.getElem?_range hj]
          have e1 : (i * ts.length + j) / ts.length = i := by
            rw [Nat.mul_comm, Nat.mul_add_div h0, Nat.div_eq_of_lt hj, Nat.add_zero]
          have e2 : (i * ts.length + j) % ts.length = j := by
            rw [Nat.mul_comm, Nat.mul_add_mod, Nat.mod_eq_of_lt hj]
          show some ((C ((i * ts.length + j) / ts.length)).getD ((i * ts.length + j) % ts.length) undef) = _
          rw [e1, e2, List.getD_eq_getElem?_getD, List.getElem?_eq_getElem (by rw [hlC i hi]; exact hj)]
          rfl
        · rw [List.getElem?_eq_none (by simpa using hj), List.getElem?_eq_none (by rw [hlC i hi]; omega)]
      show LfL P w M ts ((List.range ts.length).map fun j => (C ((i * ts.length + j) / ts.length)).getD ((i * ts.length + j) % ts.length) undef)
      rw [e]
      exact (hC i hi).2
theorem St.roL {B : Nat} {w0 w : World} {L : List Rg} (h : St B w0 L w) (hr : LW.roL L) : ∀ (R : List Rg), (∀ r ∈ R, r.at w ∧ r.rw = false) → St B w0 (R ++ L) w ∧ LW.roL (R ++ L)
  | [], _ => ⟨h, hr⟩
  | r :: R, hR => by
    obtain ⟨h1, h2⟩ := h.roL hr R (fun q hq => hR q (List.mem_cons_of_mem _ hq))
    obtain ⟨h3, h4⟩ := hR r List.mem_cons_self
    obtain ⟨p, off, n, f, rw⟩ := r
    simp only at h4
    subst h4
    exact h1.roC h2 h3
/-- what opens an element out of its cells -/
def Opens (P : Program) (w : World) (M : Nat) (D : EL) (ts : List TypeId) (Q : D.α → Prop) : Prop := ∀ cells, LfL P w M ts cells → ∃ (R : List Rg) (b : D.β) (x : D.α), (∀ r ∈ R, r.at w ∧ r.rw = false) ∧ D.side R b x ∧ cells = catL (D.E b x) ∧ Q x
def EL.lifts (D : EL) : Prop := ∀ L L' b x, (∀ r ∈ L, r ∈ L') → D.side L b x → D.side L' b x
theorem LRows.lv {P : Program} {M : Nat} {B : Nat} {w0 w : World} {L : List Rg} {D : EL} {ts : List TypeId} {a : Option Addr} {len cap : Nat} {p : Option Nat} {off : Nat} {G : Nat → Value} (h : LRows P w M ts a len cap p off G) (hst : St B w0 L w) (hr : LW.roL L) {Q : D.α → Prop} (ho : Opens P w M D ts Q) (hl : D.lifts) (hsz : D.sz = ts.length) :
    ∃ (C : List Rg) (X : List D.α), St B w0 (C ++ L) w ∧ LW.roL (C ++ L) ∧ LV D (C ++ L) 0 a len cap X ∧ ∀ (j : Nat) x, X[j]? = some x → Q x := by
  have each : ∀ i, i < cap → ∃ (R : List Rg) (b : D.β) (x : D.α), (∀ r ∈ R, r.at w ∧ r.rw = false) ∧ D.side R b x ∧ ((List.range ts.length).map fun j => G (i * ts.length + j)) = catL (D.E b x) ∧ Q x := fun i hi => ho _ (h.el i hi)
  have hle := h.le
  -- the elements, one by one
  have all : ∀ m, m ≤ len → ∃ (R : List Rg) (X : List D.α), X.length = m ∧ (∀ r ∈ R, r.at w ∧ r.rw = false) ∧ ∀ j x, X[j]? = some x → ∃ b, D.side R b x ∧ ((List.range ts.length).map fun q => G (j * ts.length + q)) = catL (D.E b x) ∧ Q x := by
    intro m
    induction m with
    | zero =>
      intro _
      refine ⟨[], [], rfl, fun r hr => ?_, fun j x hx => ?_⟩
      · cases hr
      · rw [List.getElem?_nil] at hx; cases hx
    | succ m ih =>
      intro hm
      obtain ⟨R, X, h1, h2, h3⟩ := ih (by omega)
      obtain ⟨R1, b, x, h4, h5, h6⟩ := each m (by omega)
      refine ⟨R ++ R1, X ++ [x], by rw [List.length_append, h1]; rfl, fun r hr => (List.mem_append.1 hr).elim (h2 r) (h4 r), fun j y hy => ?_⟩
      by_cases hj : j < m
      · rw [List.getElem?_append_left (by omega)] at hy
        obtain ⟨b', h7, h8⟩ := h3 j y hy
        exact ⟨b', hl _ _ _ _ (fun r hr => List.mem_append_left _ hr) h7, h8⟩
      · have hjm : j = m := by
          have := (List.getElem?_eq_some_iff.1 hy).1
          rw [List.length_append, h1, List.length_singleton] at this; omega
        subst hjm
        rw [List.getElem?_append_right (by omega), h1, Nat.sub_self] at hy
        obtain rfl : x = y := Option.some.inj hy
        exact ⟨b, hl _ _ _ _ (fun r hr => List.mem_append_right _ hr) h5, h6⟩
  obtain ⟨R, X, h1, h2, h3⟩ := all len (Nat.le_refl _)
  obtain ⟨s1, s2⟩ := hst.roL hr (⟨p, off, cap * ts.length, G, false⟩ :: R) (fun r hr => by
    rcases List.mem_cons.1 hr with rfl | hr
    · exact ⟨h.at_, rfl⟩
    · exact h2 r hr)
  refine ⟨_, X, s1, s2, ⟨h1, hle, fun _ => ⟨off, cap * ts.length, 0, off, p, G, false, rfl, h.sl, rfl, by rw [hsz, Nat.zero_add]; exact Nat.mul_le_mul_right _ hle, fun j x hx => ?_⟩⟩, fun j x hx => (h3 j x hx).choose_spec.2.2⟩
  obtain ⟨b, h7, h8, _⟩ := h3 j x hx
  refine ⟨b, hl _ _ _ _ (fun r hr => List.mem_append_left _ (List.mem_cons_of_mem _ hr)) h7, fun k v hv => ?_⟩
  rw [← h8] at hv
  have hk : k < ts.length := by
    have := (List.getElem?_eq_some_iff.1 hv).1
    simpa using this
  rw [List.getElem?_map, List.getElem?_range hk] at hv
  show G (0 + j * D.sz + k) = v
  rw [hsz, Nat.zero_add]
  exact Option.some.inj hv
/-! the parts of an element -/
theorem Bx.lift {L L' : List Rg} {i : Nat} {a : Option Addr} {len cc : Nat} {X : List Byte} (h : Bx L i a len cc X) (hs : ∀ r ∈ L, r ∈ L') : ∃ i', Bx L' i' a len cc X := by
  obtain ⟨hl, hc, h⟩ := h
  by_cases hn : 0 < len
  · obtain ⟨offs, ms, js, os, ps, G, rw, h1, h2⟩ := h hn
    obtain ⟨k, hk⟩ := List.mem_iff_getElem?.1 (hs _ (List.mem_of_getElem? h1))
    exact ⟨k, hl, hc, fun _ => ⟨offs, ms, js, os, ps, G, rw, hk, h2⟩⟩
  · exact ⟨0, hl, hc, fun h => absurd h hn⟩
theorem LfL.part {P : Program} {w : World} {M : Nat} {u : TypeId} {k : IntKind} {s : Nat} (hk : UK k s) (hku : P.underlying u = some (.int k)) : ∀ {n : Nat} {ts : List TypeId} {cs : List Value}, LfL P w M (List.replicate n u ++ ts) cs →
    ∃ (F : Nat → BitVec s) (cs' : List Value), cs = (List.range n).map (fun q => VU k (F q)) ++ cs' ∧ LfL P w M ts cs'
  | 0, ts, cs, h => ⟨fun _ => 0#s, cs, rfl, h⟩
  | n + 1, ts, cs, h => by
    rw [List.replicate_succ, List.cons_append] at h
    cases h with
    | cons h1 t =>
      rename_i v cs1
      have hx : ∃ x : BitVec s, v = VU k x := by
        cases h1 with
        | int hu hw =>
          rw [hku] at hu
          obtain rfl : k = _ := TypeDesc.int.inj (Option.some.inj hu)
          rename_i z
          refine ⟨BitVec.ofInt s z, congrArg (Value.int k) (has_u hk ?_)⟩
          unfold IntKind.has
          simpa [Lit.wf] using hw
        | bool hu => rw [hku] at hu; cases hu
        | bytes hu _ _ _ => rw [hku] at hu; cases hu
      obtain ⟨x, rfl⟩ := hx
      obtain ⟨F, cs', rfl, h2⟩ := LfL.part hk hku t
      refine ⟨fun q => match q with | 0 => x | q + 1 => F q, cs', ?_, h2⟩
      rw [List.range_succ_eq_map, List.map_cons, List.map_map, List.cons_append]
      rfl
theorem LfL.num {P : Program} {w : World} {M : Nat} {u : TypeId} {k : IntKind} {s : Nat} (hk : UK k s) (hku : P.underlying u = some (.int k)) {ts : List TypeId} {cs : List Value} (h : LfL P w M (u :: ts) cs) : ∃ (x : BitVec s) (cs' : List Value), cs = VU k x :: cs' ∧ LfL P w M ts cs' := by
  obtain ⟨F, cs', rfl, h2⟩ := LfL.part (n := 1) hk hku h
  exact ⟨F 0, cs', rfl, h2⟩
theorem LfL.int {P : Program} {w : World} {M : Nat} {u : TypeId} {k : IntKind} (hku : P.underlying u = some (.int k)) {ts : List TypeId} {cs : List Value} (h : LfL P w M (u :: ts) cs) : ∃ (x : Int) (cs' : List Value), cs = .int k x :: cs' ∧ LfL P w M ts cs' := by
  cases h with
  | cons h1 t =>
    cases h1 with
    | int hu hw =>
      rw [hku] at hu
      obtain rfl : k = _ := TypeDesc.int.inj (Option.some.inj hu)
      exact ⟨_, _, rfl, t⟩
    | bool hu => rw [hku] at hu; cases hu
    | bytes hu _ _ _ => rw [hku] at hu; cases hu
theorem LfL.bool {P : Program} {w : World} {M : Nat} {u : TypeId} (hku : P.underlying u = some .bool) {ts : List TypeId} {cs : List Value} (h : LfL P w M (u :: ts) cs) : ∃ (x : Bool) (cs' : List Value), cs = .bool x :: cs' ∧ LfL P w M ts cs' := by
  cases h with
  | cons h1 t =>
    cases h1 with
    | bool hu => exact ⟨_, _, rfl, t⟩
    | int hu hw => rw [hku] at hu; cases hu
    | bytes hu _ _ _ => rw [hku] at hu; cases hu
theorem LfL.bytes {P : Program} {w : World} {M : Nat} {u e : TypeId} (hku : P.underlying u = some (.slice e)) {ts : List TypeId} {cs : List Value} (h : LfL P w M (u :: ts) cs) :
    ∃ (r : Rg) (a : Option Addr) (cap : Nat) (X : List Byte) (i : Nat) (cs' : List Value), (r.at w ∧ r.rw = false) ∧ Bx [r] i a X.length cap X ∧ cs = .slice a X.length cap :: cs' ∧ LfL P w M ts cs' ∧ X.length ≤ M := by
  cases h with
  | cons h1 t =>
    cases h1 with
    | int hu hw => rw [hku] at hu; cases hu
    | bool hu => rw [hku] at hu; cases hu
    | bytes hu he hz hb =>
      obtain ⟨r, X, i, h2, h3, h4⟩ := hz.bx (St.init w.heap.size w (Nat.le_refl _)) roL.nil
      have hl := h4.hl
      subst hl
      exact ⟨r, _, _, X, i, _, ⟨h2.at_ r List.mem_cons_self, h3 r List.mem_cons_self⟩, h4, rfl, t, Nat.le_trans h4.2.1 hb⟩
end Go.LW

/-
  ENGINE X, PART 13 (own work): literals of arrays of arrays.
-/
namespace Go.LW
set_option linter.unusedSimpArgs false
set_option linter.unusedVariables false
set_option linter.unusedSectionVars false
open Go Go.RowKit

/-- arrays of sz, one behind the other -/
def arrs {β : Type} (sz : Nat) (z : β) (fs : List (Nat → β)) (q : Nat) : β := (fs.getD (q / sz) (fun _ => z)) (q % sz)
theorem arrs_at {β : Type} {sz : Nat} {z : β} {fs : List (Nat → β)} {i j : Nat} (hj : j < sz) : arrs sz z fs (i * sz + j) = (fs.getD i (fun _ => z)) j := by
  unfold arrs
  rw [Nat.mul_comm, Nat.mul_add_div (by omega), Nat.div_eq_of_lt hj, Nat.add_zero, Nat.mul_add_mod, Nat.mod_eq_of_lt hj]
theorem fillAA {β : Type} {V : β → Value} {sz : Nat} : ∀ (fs : List (Nat → β)) (k : Nat) (A Z : List Value), A.length = k * sz → Z.length = fs.length * sz →
    fillL (fun i => some (i * sz, sz)) (A ++ Z) ((fs.zipIdx k).map fun x => (x.2, AG [(sz, fun q => V (x.1 q))])) = some (A ++ fs.flatMap fun f => (List.range sz).map fun q => V (f q))
  | [], k, A, Z, _, hZ => by
    obtain rfl : Z = [] := List.length_eq_zero_iff.1 (by simpa using hZ)
    rfl
  | f :: fs, k, A, Z, hA, hZ => by
    have e : Z = Z.take sz ++ Z.drop sz := (List.take_append_drop sz Z).symm
    have hl : (Z.take sz).length = sz := by rw [List.length_take, hZ, List.length_cons, Nat.add_mul, Nat.one_mul]; omega
    rw [e, ← List.append_assoc, List.zipIdx_cons, List.map_cons]
    rw [fillStep (A := A) (Z := Z.take sz) (C := Z.drop sz) (Y := (List.range sz).map fun q => V (f q)) (by rw [hA, hl]) (by rw [hl]; simp) (by rw [← catL_one]; rfl)]
    have ih := fillAA (V := V) (sz := sz) fs (k + 1) (A ++ (List.range sz).map fun q => V (f q)) (Z.drop sz) (by simp [hA, Nat.add_mul]) (by
      have h2 : (f :: fs).length * sz = fs.length * sz + sz := by rw [List.length_cons, Nat.add_mul, Nat.one_mul]
      rw [List.length_drop, hZ, h2]; omega)
    rw [ih, List.flatMap_cons, List.append_assoc]
theorem arrs_list {β : Type} {V : β → Value} {sz : Nat} {z : β} (h0 : 0 < sz) : ∀ (fs : List (Nat → β)), (fs.flatMap fun f => (List.range sz).map fun q => V (f q)) = (List.range (fs.length * sz)).map fun q => V (arrs sz z fs q)
  | [] => by simp
  | f :: fs => by
    rw [List.flatMap_cons, arrs_list h0 fs (z := z), List.length_cons, Nat.succ_mul, Nat.add_comm (fs.length * sz) sz, List.range_add, List.map_append, List.map_map]
    congr 1
    · apply List.map_congr_left
      intro q hq
      have hq' := List.mem_range.1 hq
      unfold arrs
      rw [Nat.div_eq_of_lt hq', Nat.mod_eq_of_lt hq']
      rfl
    · apply List.map_congr_left
      intro q _
      show _ = V (arrs sz z (f :: fs) (sz + q))
      unfold arrs
      rw [Nat.add_div_left _ h0, Nat.add_mod_left]
      rfl
/-! short names, for claims that are long -/
theorem zca {α : Type _} {a : α} {l m : List α} : (a :: l) ++ m = a :: (l ++ m) := rfl
theorem zna {α : Type _} {l : List α} : [] ++ l = l := rfl
theorem zfc {α β : Type _} {f : α → Option β} {a : α} {l : List α} : List.filterMap f (a :: l) = match f a with | none => List.filterMap f l | some b => b :: List.filterMap f l := List.filterMap_cons
theorem zfn {α β : Type _} {f : α → Option β} : List.filterMap f [] = [] := rfl
theorem zgz {α : Type _} {a : α} {l : List α} : (a :: l)[0]? = some a := rfl
theorem zgs {α : Type _} {a : α} {l : List α} {i : Nat} : (a :: l)[i + 1]? = l[i]? := rfl
theorem zsz {α : Type _} {a b : α} {l : List α} : (a :: l).set 0 b = b :: l := rfl
theorem zss {α : Type _} {a b : α} {l : List α} {i : Nat} : (a :: l).set (i + 1) b = a :: l.set i b := rfl
theorem zer {e : Env} {s : Nat} {r : List (Nat × Value)} (t : EnvHas e r) : EnvHas e ((s, e s) :: r) := .cons rfl t
theorem zen {e : Env} : EnvHas e [] := .nil
/-! a list that is one's own or came in -/
theorem LV.in2 {D : EL} (hf : D.flat) {r : Rg} {L D' : List Rg} {i : Nat} {a : Option Addr} {len c : Nat} {X : List D.α} (h : LV D (r :: L) i a len c X) (k : Nat) (hk : D'[k]? = some r) : ∃ i', LV D (D' ++ L) i' a len c X := by
  obtain ⟨hl, hc, h⟩ := h
  by_cases hn : 0 < len
  · obtain ⟨offs, ms, js, os, ps, G, rw, h1, h2, h3, h4, h5⟩ := h hn
    have hcells : ∀ j x, X[j]? = some x → D.cells (D' ++ L) (fun k => G (js + j * D.sz + k)) x := fun j x hx => by
      obtain ⟨b, hs, hv⟩ := h5 j x hx
      exact ⟨b, hf _ _ _ _ hs, hv⟩
    cases i with
    | zero =>
      obtain rfl : r = _ := Option.some.inj h1
      exact ⟨k, hl, hc, fun _ => ⟨offs, ms, js, os, ps, G, rw, by rw [List.getElem?_append_left (List.getElem?_eq_some_iff.1 hk).1]; exact hk, h2, h3, h4, hcells⟩⟩
    | succ i =>
      exact ⟨D'.length + i, hl, hc, fun _ => ⟨offs, ms, js, os, ps, G, rw, by rw [List.getElem?_append_right (by omega), Nat.add_sub_cancel_left]; exact h1, h2, h3, h4, hcells⟩⟩
  · exact ⟨0, hl, hc, fun h => absurd h hn⟩
section step
variable {P : Program} {n : Nat} {K : Pend → Env → World → Prop} {l : List It} {O O' : Pend} {e : Env} {w : World} {i ty : Nat} {d : Tmp} {pos : String} {aft : Array Edge} {gd g : Option (Nat × Bool)}
theorem Plan.buildAA {β : Type} {V : β → Value} {t : TypeId} {parts : Array (Nat × Operand)} {len sz : Nat} {zps : List (Nat × (Nat → Value))} (fs : List (Nat → β)) (z : β) (ha : arrB P t len sz = true) (h0 : 0 < sz) (hz : zeroIs P t zps) (hzl : (zps.map (·.1)).sum = fs.length * sz) (hg : wantedE n e g = true)
    (hv : parts.toList.map (fun p => (p.1, ev n e p.2)) = (fs.zipIdx.map fun x => (x.2, AG [(sz, fun q => V (x.1 q))])))
    (h : Plan P n K l O (upd e d (AG [(fs.length * sz, fun q => V (arrs sz z fs q))])) w) : Plan P n K (⟨i, true, ⟨some d, .build t parts, ty, pos, aft, gd⟩, g⟩ :: l) O e w :=
  Plan.buildArr ha hz hg hv (by
    have := fillAA (V := V) (sz := sz) fs 0 [] (catL zps) (by simp) (by rw [catL_length]; exact hzl)
    rw [List.nil_append, List.nil_append, arrs_list h0 fs (z := z)] at this
    rw [this, catL_one]) h
/-- what all orders come to, once -/
theorem Plan.sharedF {ops : Array Oper} {K : Env → World → Prop} {a b : Tr} {σ : List (Nat × Bool)} {Q : Env → World → Prop} (h1 : ∀ e w, Q e w → Plan P n (fun _ e w => K e w) (items ops σ) [] e w)
    (h2 : (∀ e w, Q e w → Plan P n (fun _ e w => K e w) (items ops σ) [] e w) → PlanT P n ops K a O e w ∧ PlanT P n ops K b O e w) : Plan P n (fun O e w => PlanT P n ops K a O e w ∧ PlanT P n ops K b O e w) [] O e w := h2 h1
end step
/-! a call or a new row beside which nothing that was there changes -/
def Rg.ro (r : Rg) : Rg := ⟨r.p, r.off, r.n, r.f, false⟩
theorem Rg.ro_mk {p : Option Nat} {off n : Nat} {f : Nat → Value} {rw : Bool} : Rg.ro ⟨p, off, n, f, rw⟩ = ⟨p, off, n, f, false⟩ := rfl
section ro
variable {B : Nat} {w0 w w' : World} {L : List Rg}
theorem St.asro (h : St B w0 L w) : St w.heap.size w (L.map Rg.ro) w := by
  refine ⟨Below.refl _ _, Nat.le_refl _, fun r hr => ?_, fun r hr hw => ?_, ?_⟩
  · obtain ⟨s, hs, rfl⟩ := List.mem_map.1 hr
    exact h.at_ s hs
  · obtain ⟨s, hs, rfl⟩ := List.mem_map.1 hr
    exact Bool.noConfusion (show false = true from hw)
  · rw [List.pairwise_map]
    exact List.Pairwise.imp (fun _ hw => by rcases hw with hw | hw <;> exact Bool.noConfusion (show false = true from hw)) h.apart
theorem St.unro {N : List Rg} (h : St B w0 L w) (h' : St w.heap.size w (N ++ L.map Rg.ro) w') (hN : ∀ r ∈ N, r.rw = true) : St B w0 (N ++ L) w' := by
  refine ⟨h.below.trans (h'.below.mono h.base), Nat.le_trans h.base h'.below.size, fun r hr => ?_, fun r hr => ?_, ?_⟩
  · rcases List.mem_append.1 hr with hr | hr
    · exact h'.at_ r (List.mem_append_left _ hr)
    · exact h'.at_ (Rg.ro r) (List.mem_append_right _ (List.mem_map_of_mem hr))
  · rcases List.mem_append.1 hr with hr | hr
    · intro hw j hj
      obtain ⟨b, h1, h2, h3⟩ := h'.free r (List.mem_append_left _ hr) hw j hj
      exact ⟨b, h1, Nat.le_trans h.base h2, h3⟩
    · exact Rg.free_block (h.free r hr) fun b hb hn => h'.below.block b (Rg.at_lt (h.at_ r hr) hb hn)
  · rw [List.pairwise_append]
    have hp := List.pairwise_append.1 h'.apart
    refine ⟨hp.1, h.apart, fun r hr s hs _ => ?_⟩
    exact hp.2.2 r hr (Rg.ro s) (List.mem_map_of_mem hs) (.inl (hN r hr))
theorem hk_lt {b : Nat} {x : Obj} (h : w.heap[b]? = some x) : b < w.heap.size := (Array.getElem?_eq_some_iff.1 h).1
end ro
end Go.LW

/-
  ENGINE X, PART 14 (own work): arrays of ints, compared and as lists.
-/
namespace Go.LW
set_option linter.unusedSimpArgs false
set_option linter.unusedVariables false
set_option linter.unusedSectionVars false
open Go Go.RowKit

def eqI (n : Nat) (F G : Nat → Int) : Bool := (List.range n).all fun q => decide (F q = G q)
theorem eqI_iff {n : Nat} {F G : Nat → Int} : eqI n F G = true ↔ ∀ q, q < n → F q = G q := by
  unfold eqI; simp
/-- the first n of an array -/
def dli (n : Nat) (f : Nat → Int) : List Int := (List.range n).map f
theorem dli_length (n : Nat) (f : Nat → Int) : (dli n f).length = n := by unfold dli; simp
theorem dli_get {n : Nat} {f : Nat → Int} {j : Nat} {x : Int} (h : (dli n f)[j]? = some x) : j < n ∧ x = f j := by
  unfold dli at h
  rw [List.getElem?_map] at h
  obtain ⟨q, h1, h2⟩ := Option.map_eq_some_iff.1 h
  obtain ⟨h3, h4⟩ := List.getElem?_eq_some_iff.1 h1
  rw [List.getElem_range] at h4
  subst h4
  exact ⟨by simpa using h3, h2.symm⟩
theorem dli_getD {n : Nat} {f : Nat → Int} {j : Nat} (h : j < n) (d : Int) : (dli n f).getD j d = f j := by
  unfold dli
  rw [List.getD_eq_getElem?_getD, List.getElem?_map, List.getElem?_range h]; rfl
section run
variable {P : Program}
theorem run_eqItemsI (d : Nat) {el : TypeId} {kd : IntKind} (he : P.underlying el = some (.int kd)) (xs ys : Array Value) (F G : Nat → Int) (w : World) : ∀ is : List Nat, (∀ i ∈ is, xs[i]? = some (.int kd (F i)) ∧ ys[i]? = some (.int kd (G i))) → (Op.eqItems (d + 1) el 1 xs ys is).run P w = .ok (is.all fun q => decide (F q = G q)) w
  | [], _ => by simp [Op.eqItems]
  | i :: is, h => by
    obtain ⟨h1, h2⟩ := h i List.mem_cons_self
    have ih := run_eqItemsI d he xs ys F G w is (fun j hj => h j (List.mem_cons_of_mem _ hj))
    have px : (part el xs (i * 1)).run P w = .ok (.int kd (F i)) w := by
      simp [part, isAgg, run_underlying he, h1]
    have py : (part el ys (i * 1)).run P w = .ok (.int kd (G i)) w := by
      simp [part, isAgg, run_underlying he, h2]
    have pe : (Op.equalIn (d + 1) el (.int kd (F i)) (.int kd (G i))).run P w = .ok (decide (F i = G i)) w := by
      rw [run_equalIn_int w d el kd kd _ _ he]
      congr 1
    simp only [Op.eqItems, Sem.run_bind, px, py, pe, Result.andThen_ok, List.all_cons]
    cases hb : (decide (F i = G i))
    · simp
    · simpa using ih
theorem run_eqArrI {n : Nat} {t : TypeId} {kd : IntKind} (h : arrIB P t n kd = true) (F G : Nat → Int) (w : World) : (Op.equal t (AG [(n, fun q => .int kd (F q))]) (AG [(n, fun q => .int kd (G q))])).run P w = .ok (eqI n F G) w := by
  obtain ⟨el, i, hu, hi, hs, hk, _⟩ := arrIB_spec h
  unfold Op.equal AG
  rw [show Op.maxDepth = 9998 + 1 + 1 by rfl, run_equalIn_array w (9998 + 1) _ _ hu hi]
  have hc : P.cellsOf el = 1 := by simp [Program.cellsOf, hi, hs]
  rw [hc]
  refine run_eqItemsI 9998 hk _ _ F G w _ fun j hj => ?_
  have hj := List.mem_range.1 hj
  simp [catL_one, hj]
end run
section unroll
variable {P : Program} {n : Nat} {R : Exit → Env → World → Prop} {e : Env} {w : World}
/-- a loop's rounds, one by one -/
def UL (P : Program) (n : Nat) (c : Code) (R : Exit → Env → World → Prop) : Nat → Env → World → Prop
  | 0 => fun _ _ => False
  | m + 1 => fun e w => W P n c (thenR (UL P n c R m) R) e w
theorem UL.next {c : Code} {m : Nat} (h : W P n c (thenR (UL P n c R m) R) e w) : UL P n c R (m + 1) e w := h
theorem UL.nextT {c : Code} {m : Nat} (h : W P n c (thenR (UL P n c R m) R) e w) : thenR (UL P n c R (m + 1)) R .normal e w := h
theorem W.unroll {c : Code} (m : Nat) (h : UL P n c R m e w) : W P n (.loop c) R e w :=
  W.loop (fun m e w => UL P n c R m e w) m h fun m e w hI => by
    cases m with
    | zero => exact hI.elim
    | succ m => exact W.mono hI fun x e w hx => by cases x <;> first | exact ⟨m, Nat.lt_succ_self m, hx⟩ | exact hx
end unroll
section step
variable {P : Program} {n : Nat} {K : Pend → Env → World → Prop} {l : List It} {O O' : Pend} {e : Env} {w : World} {i ty : Nat} {d : Tmp} {pos : String} {aft : Array Edge} {gd g : Option (Nat × Bool)}
theorem Plan.eqArrIV {t yt : TypeId} {x y : Operand} {m : Nat} {kd : IntKind} {F G : Nat → Int} {b : Bool} (ha : arrIB P t m kd = true) (hg : wantedE n e g = true) (hx : ev n e x = AG [(m, fun q => .int kd (F q))]) (hy : ev n e y = AG [(m, fun q => .int kd (G q))]) (hb : eqI m F G = b)
    (h : Plan P n K l O (upd e d (.bool b)) w) : Plan P n K (⟨i, true, ⟨some d, .binOp .eql t x y yt, ty, pos, aft, gd⟩, g⟩ :: l) O e w :=
  Plan.val hg (fun w => run_v (by
    rw [hx, hy, Sem.run_bind]
    have h1 : (eqGuard .eql t x y (AG [(m, fun q => .int kd (F q))]) (AG [(m, fun q => .int kd (G q))])).run P w = .ok () w := run_eqGuard (arrIB_spec ha).choose_spec.choose_spec.2.2.2.2 w
    rw [h1]
    simp only [Result.andThen_ok]
    have h2 := run_eqArrI ha F G w
    rw [hb] at h2
    unfold AG at h2 ⊢
    simp only [binOp, Sem.run_bind, h2, Result.andThen_ok, Sem.run_pure])) h
theorem Plan.neArrIV {t yt : TypeId} {x y : Operand} {m : Nat} {kd : IntKind} {F G : Nat → Int} {b : Bool} (ha : arrIB P t m kd = true) (hg : wantedE n e g = true) (hx : ev n e x = AG [(m, fun q => .int kd (F q))]) (hy : ev n e y = AG [(m, fun q => .int kd (G q))]) (hb : eqI m F G = b)
    (h : Plan P n K l O (upd e d (.bool (!b))) w) : Plan P n K (⟨i, true, ⟨some d, .binOp .neq t x y yt, ty, pos, aft, gd⟩, g⟩ :: l) O e w :=
  Plan.val hg (fun w => run_v (by
    rw [hx, hy, Sem.run_bind]
    have h1 : (eqGuard .neq t x y (AG [(m, fun q => .int kd (F q))]) (AG [(m, fun q => .int kd (G q))])).run P w = .ok () w := run_eqGuard (arrIB_spec ha).choose_spec.choose_spec.2.2.2.2 w
    rw [h1]
    simp only [Result.andThen_ok]
    have h2 := run_eqArrI ha F G w
    rw [hb] at h2
    unfold AG at h2 ⊢
    simp only [binOp, Sem.run_bind, h2, Result.andThen_ok, Sem.run_pure])) h
end step
end Go.LW

/-
  ENGINE X, PART 15 (own work): bytes compared; elements that lead to bytes which stay (a pool that grows): the frame grows.
-/
namespace Go.LW
set_option linter.unusedSimpArgs false
set_option linter.unusedVariables false
set_option linter.unusedSectionVars false
open Go Go.RowKit

/-! bytes compared -/
def cmpI : List Byte → List Byte → Int
  | [], [] => 0
  | [], _ :: _ => -1
  | _ :: _, [] => 1
  | a :: X, b :: Y => if a.toNat < b.toNat then -1 else if b.toNat < a.toNat then 1 else cmpI X Y
def ltL : List Byte → List Byte → Bool
  | _, [] => false
  | [], _ :: _ => true
  | a :: X, b :: Y => if a.toNat < b.toNat then true else if b.toNat < a.toNat then false else ltL X Y
def u8L (X : List Byte) : List UInt8 := X.map fun b => UInt8.ofNat b.toNat
theorem u8_toNat (a : Byte) : (UInt8.ofNat a.toNat).toNat = a.toNat := by
  have := a.isLt
  rw [UInt8.toNat_ofNat']; omega
theorem u8_lt (a b : Byte) : (UInt8.ofNat a.toNat < UInt8.ofNat b.toNat) ↔ a.toNat < b.toNat := by
  rw [UInt8.lt_iff_toNat_lt, u8_toNat, u8_toNat]
theorem u8_beq (a b : Byte) : (UInt8.ofNat a.toNat == UInt8.ofNat b.toNat) = decide (a.toNat = b.toNat) := by
  rw [Bool.eq_iff_iff, beq_iff_eq, decide_eq_true_iff, ← UInt8.toNat_inj, u8_toNat, u8_toNat]
theorem cmpI_eq : ∀ X Y : List Byte, Lib.compareBytes (u8L X) (u8L Y) = cmpI X Y
  | [], [] => rfl
  | [], _ :: _ => rfl
  | _ :: _, [] => rfl
  | a :: X, b :: Y => by
    show (if UInt8.ofNat a.toNat < UInt8.ofNat b.toNat then (-1 : Int) else if UInt8.ofNat b.toNat < UInt8.ofNat a.toNat then 1 else Lib.compareBytes (u8L X) (u8L Y)) = _
    rw [cmpI_eq X Y]
    simp only [u8_lt]
    rw [cmpI]
theorem ltL_eq : ∀ X Y : List Byte, Op.bytesLess (u8L X) (u8L Y) = ltL X Y
  | [], [] => rfl
  | [], _ :: _ => rfl
  | _ :: _, [] => rfl
  | a :: X, b :: Y => by
    show (decide (UInt8.ofNat a.toNat < UInt8.ofNat b.toNat) || (UInt8.ofNat a.toNat == UInt8.ofNat b.toNat && Op.bytesLess (u8L X) (u8L Y))) = _
    rw [ltL_eq X Y, u8_beq, ltL]
    simp only [u8_lt]
    generalize ltL X Y = z
    by_cases h1 : a.toNat < b.toNat
    · simp [h1]
    · by_cases h2 : b.toNat < a.toNat
      · simp [h1, h2]; omega
      · have h3 : a.toNat = b.toNat := by omega
        simp [h3]
theorem strL_data (X : List Byte) : (strL X).data.toList = u8L X := by
  unfold strL u8L
  rw [strOfNums_data, List.map_map]
  exact List.map_congr_left fun b _ => by simp
theorem strL_toList (X : List Byte) : (strL X).toList = u8L X := by
  rw [ByteArray.toList_eq, strL_data]

section
variable {P : Program} {n : Nat} {K : Pend → Env → World → Prop} {l : List It} {O O' : Pend} {e : Env} {w : World} {i ty : Nat} {d : Tmp} {pos : String} {aft : Array Edge} {gd g : Option (Nat × Bool)}
variable {B : Nat} {w0 : World} {L L' : List Rg}
theorem Plan.ltStrV {t yt : TypeId} {x y : Operand} {X Y : List Byte} {v : Bool} (hg : wantedE n e g = true) (hx : ev n e x = .string (strL X)) (hy : ev n e y = .string (strL Y)) (hv : ltL X Y = v)
    (h : Plan P n K l O (upd e d (.bool v)) w) : Plan P n K (⟨i, true, ⟨some d, .binOp .lss t x y yt, ty, pos, aft, gd⟩, g⟩ :: l) O e w := Plan.val hg (fun w => by
    refine run_v ?_
    rw [hx, hy]
    have hq : (eqGuard .lss t x y (.string (strL X)) (.string (strL Y))).run P w = .ok () w := rfl
    rw [Sem.run_bind, hq]
    show ((binOp .lss t (.string (strL X)) (.string (strL Y))).run P w) = _
    rw [binOp_string_lss, strL_toList, strL_toList, ltL_eq, hv]; rfl) h
theorem Plan.slVp {t : TypeId} {x : Operand} {ix len cap lo hi : Nat} {a : Option Addr} {X : List Byte} {low high : Option Operand} {LP : List Rg} (hX : Bx L ix a len cap X) (hP : ∃ i, Bx LP i a len cap X) (ha : slB P t 1 = true) (hg : wantedE n e g = true) (hx : ev n e x = .slice a len cap)
    (hlo : match low with | some y => ∃ k, ev n e y = .int k (lo : Int) | none => lo = 0) (hhi : match high with | some y => ∃ k, ev n e y = .int k (hi : Int) | none => hi = len) (hb : lo ≤ hi ∧ hi ≤ len)
    (h : ∀ a' c', Bx L ix a' (seg X lo hi).length c' (seg X lo hi) → (∃ i, Bx LP i a' (seg X lo hi).length c' (seg X lo hi)) → Plan P n K l O (upd e d (.slice a' (seg X lo hi).length c')) w) : Plan P n K (⟨i, true, ⟨some d, .slice t x low high none, ty, pos, aft, gd⟩, g⟩ :: l) O e w := by
  have hle := hX.le
  obtain ⟨j, hP⟩ := hP
  refine Plan.slSl ha hg hx hlo hhi ⟨hb.1, by omega⟩ ?_
  have e : hi - lo = (seg X lo hi).length := (seg_length (by rw [hX.hl]; exact hb.2)).symm
  have h1 := hX.seg hb
  have h2 := hP.seg hb
  rw [e] at h1 h2 ⊢
  exact h _ _ h1 ⟨_, h2⟩
theorem run_bytesOf (hst : St B w0 L w) {ix len c : Nat} {a : Option Addr} {X : List Byte} (hX : Bx L ix a len c X) : (Extern.Bytes.bytesOf (.slice a len c)).run P w = .ok (strL X) w := by
  obtain ⟨hl, hc, h0⟩ := hX
  by_cases hn : 0 < len
  · obtain ⟨offs, ms, js, os, ps, G, rw, h1, h2, h3, h4, h6⟩ := h0 hn
    have hr := hst.mem h1
    obtain ⟨b, hp, ha⟩ := h2 hn
    subst ha
    have hl2 := Lib.run_loadBytesX (P := P) w (X.map fun b => (b.toNat : Int)) ⟨b, os, none⟩ .empty (fun q x hq => by
      have hql : q < X.length := by
        have := (List.getElem?_eq_some_iff.1 hq).1
        simpa using this
      have e : (⟨b, os, none⟩ : Addr).add q = ⟨b, os + q, none⟩ := by unfold Addr.add; split <;> simp_all
      obtain ⟨b', hp', hc'⟩ := hr (js + q) (show js + q < ms by omega)
      simp only at hp'
      rw [hp] at hp'
      obtain rfl := Option.some.inj hp'
      rw [e, h3, Nat.add_assoc, hc']
      rw [List.getElem?_map, List.getElem?_eq_getElem hql] at hq
      show some (VU .u8 (G (js + q))) = _
      rw [← h6 q (by omega)]
      unfold lit
      rw [List.getD_eq_getElem?_getD, List.getElem?_eq_getElem hql]
      exact congrArg (fun z => some (Value.int .u8 z)) (Option.some.inj hq))
    rw [List.length_map, hl] at hl2
    show (Extern.Bytes.loadBytes ⟨b, os, none⟩ len .empty).run P w = _
    rw [hl2]
    have e2 : (⟨ByteArray.empty.data ++ (Lib.bytesOf (X.map fun b => (b.toNat : Int))).toArray⟩ : ByteArray) = strL X := by
      apply ByteArray.ext
      show (#[] : Array UInt8) ++ (Lib.bytesOf (X.map fun b => (b.toNat : Int))).toArray = _
      rw [Array.empty_append]
      rfl
    rw [e2]
  · obtain rfl : len = 0 := by omega
    obtain rfl := List.length_eq_zero_iff.1 hl
    cases a <;> rfl
theorem u8_cmp (X Y : List Byte) : Extern.BytealgCompare.cmp (strL X) (strL Y) = cmpI X Y := by
  rw [Lib.cmp_eq, strL_data, strL_data, cmpI_eq]
theorem Plan.cmpB (hst : St B w0 L w) {f : FuncId} {fn : Func} {x y : Operand} {at' : Array TypeId} {i1 l1 c1 i2 l2 c2 : Nat} {a1 a2 : Option Addr} {X Y : List Byte} (hf : P.funcs[f]? = some fn) (hname : (fn.name == "runtime.NumGoroutine") = false) (hb : fn.body.isNone = true) (hn : Extern.findNext fn = none) (he : Extern.find fn = some Extern.BytealgCompare.compare)
    (hX : Bx L i1 a1 l1 c1 X) (hY : Bx L i2 a2 l2 c2 Y) (hg : wantedE n e g = true) (hx : ev n e x = .slice a1 l1 c1) (hy : ev n e y = .slice a2 l2 c2)
    (h : Plan P n K l O (upd e d (.int .i64 (cmpI X Y))) w) :
    Plan P n K (⟨i, false, ⟨some d, .call ⟨.value (.func f), #[x, y], at'⟩, ty, pos, aft, gd⟩, g⟩ :: l) O e w := by
  refine Plan.eff hg ?_
  have hρ : ev n e (.func f) = .func (.func f) #[] #[] := rfl
  have h1 := run_callFunc_extern (P := P) hf hname hb hn he #[.slice a1 l1 c1, .slice a2 l2 c2] w
  have h3 : (Extern.BytealgCompare.compare #[.slice a1 l1 c1, .slice a2 l2 c2]).run P w = .ok (.int .i64 (cmpI X Y)) w := by
    change Sem.run P (do pure (goInt (Extern.BytealgCompare.cmp (← Extern.Bytes.bytesOf (.slice a1 l1 c1)) (← Extern.Bytes.bytesOf (.slice a2 l2 c2))))) w = _
    simp only [Sem.run_bind, run_bytesOf hst hX, run_bytesOf hst hY, Result.andThen, Sem.run_pure]
    rw [u8_cmp]; rfl
  rw [h3] at h1
  simp only [execOp, resolve, hρ, Deferred.ofValue, Sem.run_bind, Sem.run_pure, Result.andThen, invoke]
  have h2 : (#[] ++ Array.map (ev n e) #[x, y] ++ #[] : Array Value) = #[.slice a1 l1 c1, .slice a2 l2 c2] := by simp [hx, hy]
  rw [h2, h1]
  exact .inl ⟨fun p _ hp => hp, h⟩
end

/-! elements whose bytes lie in a pool -/
@[reducible] def EL.at (D : EL) (P : List Rg) : EL := { D with side := fun _ b x => D.side P b x, mono := fun _ _ _ _ h => h }
theorem EL.at_flat {D : EL} {P : List Rg} : (D.at P).flat := fun _ _ _ _ h => h
theorem EL.cells.grow {D : EL} {P P' L L' : List Rg} {G : Nat → Value} {x : D.α} (hl : D.lifts) (hp : ∀ r ∈ P, r ∈ P') (h : (D.at P).cells L G x) : (D.at P').cells L' G x := by
  obtain ⟨b, h1, h2⟩ := h
  exact ⟨b, hl _ _ _ _ hp h1, h2⟩
theorem LV.grow {D : EL} {P P' L : List Rg} {i : Nat} {a : Option Addr} {len cc : Nat} {X : List D.α} (hl : D.lifts) (hp : ∀ r ∈ P, r ∈ P') (h : LV (D.at P) L i a len cc X) : LV (D.at P') L i a len cc X := by
  obtain ⟨h1, h2, h3⟩ := h
  refine ⟨h1, h2, fun hn => ?_⟩
  obtain ⟨offs, ms, js, os, ps, G, rw, q1, q2, q3, q4, q5⟩ := h3 hn
  exact ⟨offs, ms, js, os, ps, G, rw, q1, q2, q3, q4, fun j x hx => (q5 j x hx).grow hl hp⟩
theorem LO.grow {D : EL} {P P' L L' : List Rg} {a : Option Addr} {pb : Option Nat} {len cap : Nat} {F : Nat → Value} {X : List D.α} (hl : D.lifts) (hp : ∀ r ∈ P, r ∈ P') (h : LO (D.at P) L a pb len cap F X) : LO (D.at P') L' a pb len cap F X :=
  ⟨h.ho, h.hc, h.hl, fun j x hx => (h.hF j x hx).grow hl hp, h.hK⟩
theorem LV.ofAt {D : EL} {L : List Rg} {i : Nat} {a : Option Addr} {len cc : Nat} {X : List D.α} (h : LV D L i a len cc X) : LV (D.at L) L i a len cc X := h

/-! the frame grows -/
def Fr2 (A AP B BP : List Rg) : Prop := ∃ C, B = C ++ A ∧ BP = C ++ AP
theorem Fr2.refl (A AP : List Rg) : Fr2 A AP A AP := ⟨[], rfl, rfl⟩
theorem Fr2.step {A AP B BP B' BP' C : List Rg} (h : Fr2 A AP B BP) (h1 : B' = C ++ B) (h2 : BP' = C ++ BP) : Fr2 A AP B' BP' := by
  obtain ⟨C0, rfl, rfl⟩ := h
  exact ⟨C ++ C0, by rw [h1, List.append_assoc], by rw [h2, List.append_assoc]⟩
theorem Fr2.get {A AP B BP : List Rg} (h : Fr2 A AP B BP) {i : Nat} {r : Rg} (hA : A[i]? = some r) : ∃ j : Nat, B[j]? = some r := by
  obtain ⟨C, rfl, _⟩ := h
  exact ⟨i + C.length, by rw [List.getElem?_append_right (by omega), Nat.add_sub_cancel]; exact hA⟩
theorem frMemGrow {A B C : List Rg} (h : ∀ r ∈ A, r ∈ B) : ∀ r ∈ C ++ A, r ∈ C ++ B := fun r hr => (List.mem_append.1 hr).elim (List.mem_append_left _) fun h' => List.mem_append_right _ (h r h')
theorem St.re {B : Nat} {w0 w : World} {N L M : List Rg} (hL : L = M) (h : St B w0 (N ++ M) w) : St B w0 (N ++ L) w := hL ▸ h
theorem St.pool {B : Nat} {w0 w : World} {N R C L : List Rg} (h : St B w0 (N ++ (C ++ (R ++ L))) w) : St B w0 (N ++ (R ++ (C ++ L))) w :=
  h.perm (List.Perm.append_left N (by rw [← List.append_assoc, ← List.append_assoc]; exact List.Perm.append_right L List.perm_append_comm))
theorem St.dropC {B : Nat} {w0 w : World} {N C L : List Rg} (h : St B w0 (N ++ (C ++ L)) w) : St B w0 (N ++ L) w :=
  h.sub (List.Sublist.append (List.Sublist.refl N) (List.sublist_append_right C L))
section
variable {P : Program} {n : Nat} {K : Pend → Env → World → Prop} {l : List It} {O O' : Pend} {e : Env} {w : World} {i ty : Nat} {d : Tmp} {pos : String} {aft : Array Edge} {gd g : Option (Nat × Bool)}
variable {B : Nat} {w0 : World} {L L' : List Rg} {D : EL}
/-- the address of a field of an element, and what lies there -/
theorem Plan.fieldLV (_ : St B w0 L w) {t : TypeId} {x : Operand} {f ix len cc j sz : Nat} {a : Option Addr} {X : List D.α} (off : Nat) (hX : LV D L ix a len cc X) (hj : j < len) (hf : fieldB P t f off = true) (hg : wantedE n e g = true) (hx : ev n e x = .pointer (a.map fun z => ⟨z.block, z.off + j * sz, none⟩))
    (h : Plan P n K l O (upd e d (.pointer (a.map fun z => ⟨z.block, z.off + j * sz + off, none⟩))) w) : Plan P n K (⟨i, true, ⟨some d, .fieldAddr t x f, ty, pos, aft, gd⟩, g⟩ :: l) O e w := by
  obtain ⟨hl, hc, hX⟩ := hX
  obtain ⟨offs, ms, js, os, ps, G, rw, h1, h2, h3, h4, h5⟩ := hX (by omega)
  obtain ⟨b, hb1, hb2⟩ := h2 (by omega)
  subst hb2
  exact Plan.fieldAddr off hf hg hx h
theorem Plan.loadLVf (hst : St B w0 L w) {t : TypeId} {x : Operand} {ix len cc j sz off : Nat} {a : Option Addr} {X : List D.α} (dflt : D.α) (v : D.β → D.α → Value) (hX : LV D L ix a len cc X) (hg : wantedE n e g = true) (hx : ev n e x = .pointer (a.map fun z => ⟨z.block, z.off + j * sz + off, none⟩)) (hj : j < len) (hsz : D.sz = sz) (ho : off < sz) (hv : ∀ b y, (catL (D.E b y))[off]? = some (v b y)) (ht : scalarT P t = true)
    (h : ∀ b r, D.side L b (X.getD j dflt) → L[ix]? = some r → Plan P n K l ((i, r.at) :: O) (upd e d (v b (X.getD j dflt))) w) : Plan P n K (⟨i, true, ⟨some d, .load t x, ty, pos, aft, gd⟩, g⟩ :: l) O e w := by
  subst hsz
  obtain ⟨hl, hc, hX⟩ := hX
  obtain ⟨offs, ms, js, os, ps, G, rw, h1, h2, h3, h4, h5⟩ := hX (by omega)
  obtain ⟨b, hb1, hb2⟩ := h2 (by omega)
  subst hb2 hb1
  obtain ⟨bb, s1, s2⟩ := h5 j _ (getD_of (by omega) dflt)
  have hx' : ev n e x = .pointer (some ⟨b, offs + (js + j * D.sz + off), none⟩) := by rw [hx, ← Nat.add_assoc, ← Nat.add_assoc, ← h3]; rfl
  have h7 := h bb _ s1 h1
  have e1 : G (js + j * D.sz + off) = _ := s2 off _ (hv bb _)
  refine Plan.load1 hst ix hg hx' h1 (by have := cells_at hj h4; omega) ht ?_
  rw [e1]
  exact h7
end
end Go.LW

/-
  ENGINE X, PART 16 (own work): own slices of bytes with zeros behind their end.
-/
namespace Go.LW
set_option linter.unusedSimpArgs false
set_option linter.unusedVariables false
set_option linter.unusedSectionVars false
open Go Go.RowKit

def OwZ (a : Option Addr) (pb : Option Nat) (len cap : Nat) (F : Nat → Byte) (X : List Byte) : Prop := Ow a pb len cap F X ∧ ∀ q, len ≤ q → q < cap → F q = 0#8
theorem Bx.inSt {B : Nat} {w0 w : World} {L : List Rg} (_ : St B w0 L w) {r : Rg} {i : Nat} {a : Option Addr} {n c : Nat} {X : List Byte} (h : Bx [r] i a n c X) (hr : r ∈ L) : ∃ i', Bx L i' a n c X := h.lift (fun _ hq => (List.mem_singleton.1 hq) ▸ hr)
section
variable {P : Program} {n : Nat} {K : Pend → Env → World → Prop} {l : List It} {O O' : Pend} {e : Env} {w : World} {i ty : Nat} {d : Tmp} {pos : String} {aft : Array Edge} {gd g : Option (Nat × Bool)}
variable {B : Nat} {w0 : World} {L L' : List Rg}
theorem Plan.appendOZ (hst : St B w0 L w) {t t' sz : TypeId} {x y : Operand} {len cap m cy iy : Nat} {a ay : Option Addr} {pb : Option Nat} {F : Nat → Byte} {X Y : List Byte} (k : Nat) (hO : OwZ a pb len cap F X) (he : elD P t = some (1, 1, some (VU .u8 0#8))) (ht' : slB P t' sz = true) (hg : wantedE n e g = true)
    (hx : ev n e x = .slice a len cap) (hy : ev n e y = .slice ay m cy) (hL : L[k]? = some ⟨pb, 0, cap, fun q => VU .u8 (F q), true⟩) (hY : Bx L iy ay m cy Y) (hb : len + m ≤ 140737488355328)
    (hw : ∀ r, EffO aft O (L.set k r) O')
    (h : ∀ a' pb' cap' (F' : Nat → Byte) w', OwZ a' pb' (X ++ Y).length cap' F' (X ++ Y) → cap ≤ cap' → St B w0 (L.set k ⟨pb', 0, cap', fun q => VU .u8 (F' q), true⟩) w' → Plan P n K l O' (updO e (some d) (.slice a' (X ++ Y).length cap')) w') :
    Plan P n K (⟨i, false, ⟨some d, .call ⟨.builtin .append, #[x, y], #[t, t']⟩, ty, pos, aft, gd⟩, g⟩ :: l) O e w := by
  obtain ⟨hOw, hz⟩ := hO
  have hX := hOw.hl
  have hYl := hY.hl
  have hc := hOw.hc
  have hk : k < L.length := (List.getElem?_eq_some_iff.1 hL).1
  obtain ⟨w', a', pb', cap', ip, r, hr, ho', ⟨hcap, hcc⟩, hst', hcase⟩ := run_appendK (P := P) (ty := ty) (s := 1) (by' := 1) (z := VU .u8 0#8) (zf := fun _ => VU .u8 0#8) (F := fun q => VU .u8 (F q)) (g := fun q => VU .u8 (lit Y q)) (pb := pb) (k := k) (len := len) (cap := cap) hst (elB_of he) rfl (fun q hq => by
      have h0 : q = 0 := by omega
      subst h0; rfl) (by rw [Nat.mul_one]; exact hL) hOw.ho (Src.ofBs hst ht' (hY.bs' k hL)) hOw.hc (by omega) (by omega)
  have hst2 := St.instead' hk hst'
  have hl : (X ++ Y).length = len + m := by rw [List.length_append, hX, hYl]
  have hF' : (fun q => if ip = true ∨ q < (len + m) * 1 then spl (fun q => VU .u8 (F q)) (len * 1) (m * 1) (fun q => VU .u8 (lit Y q)) q else VU .u8 0#8) = fun q => VU .u8 (if ip = true ∨ q < len + m then spl F len m (lit Y) q else 0#8) := by
    funext q
    simp only [Nat.mul_one]
    split
    · unfold spl; split <;> rfl
    · rfl
  rw [hF', Nat.mul_one] at hst2
  refine Plan.effS hg (w' := w') (v := .slice a' (X ++ Y).length cap') (run_blt2 fun c => ?_) hst2 (hw _) fun w' hw' => h a' pb' cap' _ w' ⟨⟨ho', by omega, rfl, fun q hq => ?_⟩, fun q hq hq2 => ?_⟩ hcc hw'
  · rw [hx, hy]
    simp only [builtin, Sem.run_bind, hr, hl]
    rfl
  · show _ = if _ then _ else _
    rw [if_pos (.inr (by omega)), lit_app]
    by_cases h1 : q < X.length
    · rw [if_pos h1, spl_out _ _ _ _ _ (by omega)]; exact hOw.hF q (by omega)
    · rw [if_neg h1, spl_in _ _ _ _ _ (by omega), hX]
  · show (if _ then _ else _) = _
    split
    · rename_i h1
      rcases h1 with h1 | h1
      · rw [spl_out _ _ _ _ _ (by omega)]
        refine hz q (by omega) ?_
        rcases hcase with ⟨_, _, _, h5⟩ | ⟨h5, _⟩
        · omega
        · rw [h5] at h1; cases h1
      · omega
    · rfl
/-- to the end of the room -/
theorem Plan.slZ {t : TypeId} {x : Operand} {a : Option Addr} {pb : Option Nat} {len cap hi : Nat} {F : Nat → Byte} {X : List Byte} {low high : Option Operand} (hO : OwZ a pb len cap F X) (ha : slB P t 1 = true) (hg : wantedE n e g = true) (hx : ev n e x = .slice a len cap)
    (hlo : match low with | some y => ∃ k, ev n e y = .int k ((0 : Nat) : Int) | none => (0 : Nat) = 0) (hhi : match high with | some y => ∃ k, ev n e y = .int k (hi : Int) | none => hi = len) (hb : len ≤ hi ∧ hi ≤ cap)
    (h : Ow a pb (X ++ List.replicate (hi - len) 0#8).length cap F (X ++ List.replicate (hi - len) 0#8) → Plan P n K l O (upd e d (.slice a (X ++ List.replicate (hi - len) 0#8).length cap)) w) : Plan P n K (⟨i, true, ⟨some d, .slice t x low high none, ty, pos, aft, gd⟩, g⟩ :: l) O e w := by
  obtain ⟨hOw, hz⟩ := hO
  have hl : (X ++ List.replicate (hi - len) 0#8).length = hi := by rw [List.length_append, List.length_replicate, hOw.hl]; omega
  refine Plan.slSl (lo := 0) (hi := hi) ha hg hx hlo hhi ⟨Nat.zero_le _, hb.2⟩ ?_
  have e1 : (if cap = 0 then a else a.map (·.add (0 * 1))) = a := by
    split
    · rfl
    · cases a with
      | none => rfl
      | some z => simp [Addr.add]
  rw [e1, Nat.sub_zero, Nat.sub_zero]
  have h2 := h ⟨hOw.ho, by omega, rfl, fun q hq => ?_⟩
  · rw [hl] at h2; exact h2
  · rw [lit_app]
    by_cases h1 : q < X.length
    · rw [if_pos h1]; exact hOw.hF q (by rw [← hOw.hl]; exact h1)
    · rw [if_neg h1, hz q (by rw [← hOw.hl]; omega) (by omega)]
      unfold lit
      rw [List.getD_eq_getElem?_getD, List.getElem?_replicate]
      split <;> rfl
/-- append; the slice as it was is a view from then on -/
theorem Plan.appendOK (hst : St B w0 L w) {t t' sz : TypeId} {x y : Operand} {len cap m cy iy : Nat} {a ay : Option Addr} {pb : Option Nat} {F : Nat → Byte} {X Y : List Byte} (k : Nat) (hOw : Ow a pb len cap F X) (he : elD P t = some (1, 1, some (VU .u8 0#8))) (ht' : slB P t' sz = true) (hg : wantedE n e g = true)
    (hx : ev n e x = .slice a len cap) (hy : ev n e y = .slice ay m cy) (hL : L[k]? = some ⟨pb, 0, cap, fun q => VU .u8 (F q), true⟩) (hY : Bx L iy ay m cy Y) (hb : len + m ≤ 140737488355328)
    (hw : ∀ q r, EffO aft O (q :: L.set k r) O')
    (h : ∀ a' pb' cap' (F' : Nat → Byte) r iz w', Ow a' pb' (X ++ Y).length cap' F' (X ++ Y) → (iz = 0 ∨ iz = k + 1) → Bx (⟨pb', 0, cap', fun q => VU .u8 (F' q), true⟩ :: L.set k r) iz a len cap X → St B w0 (⟨pb', 0, cap', fun q => VU .u8 (F' q), true⟩ :: L.set k r) w' → Plan P n K l O' (updO e (some d) (.slice a' (X ++ Y).length cap')) w') :
    Plan P n K (⟨i, false, ⟨some d, .call ⟨.builtin .append, #[x, y], #[t, t']⟩, ty, pos, aft, gd⟩, g⟩ :: l) O e w := by
  have hX := hOw.hl
  have hYl := hY.hl
  have hc := hOw.hc
  have hk : k < L.length := (List.getElem?_eq_some_iff.1 hL).1
  obtain ⟨w', a', pb', cap', ip, r, hr, ho', ⟨hcap, hcc⟩, hst', hcase⟩ := run_appendK (P := P) (ty := ty) (s := 1) (by' := 1) (z := VU .u8 0#8) (zf := fun _ => VU .u8 0#8) (F := fun q => VU .u8 (F q)) (g := fun q => VU .u8 (lit Y q)) (pb := pb) (k := k) (len := len) (cap := cap) hst (elB_of he) rfl (fun q hq => by
      have h0 : q = 0 := by omega
      subst h0; rfl) (by rw [Nat.mul_one]; exact hL) hOw.ho (Src.ofBs hst ht' (hY.bs' k hL)) hOw.hc (by omega) (by omega)
  have hl : (X ++ Y).length = len + m := by rw [List.length_append, hX, hYl]
  have hF' : (fun q => if ip = true ∨ q < (len + m) * 1 then spl (fun q => VU .u8 (F q)) (len * 1) (m * 1) (fun q => VU .u8 (lit Y q)) q else VU .u8 0#8) = fun q => VU .u8 (if ip = true ∨ q < len + m then spl F len m (lit Y) q else 0#8) := by
    funext q
    simp only [Nat.mul_one]
    split
    · unfold spl; split <;> rfl
    · rfl
  rw [hF', Nat.mul_one] at hst'
  have hOw' : Ow a' pb' (X ++ Y).length cap' (fun q => if ip = true ∨ q < len + m then spl F len m (lit Y) q else 0#8) (X ++ Y) := by
    refine ⟨ho', by omega, rfl, fun q hq => ?_⟩
    show _ = if _ then _ else _
    rw [if_pos (.inr (by omega)), lit_app]
    by_cases h1 : q < X.length
    · rw [if_pos h1, spl_out _ _ _ _ _ (by omega)]; exact hOw.hF q (by omega)
    · rw [if_neg h1, spl_in _ _ _ _ _ (by omega), hX]
  have hview : ∃ iz, (iz = 0 ∨ iz = k + 1) ∧ Bx (⟨pb', 0, cap', fun q => VU .u8 (if ip = true ∨ q < len + m then spl F len m (lit Y) q else 0#8), true⟩ :: L.set k r) iz a len cap X := by
    rcases hcase with ⟨h1, h2, h3, h4⟩ | ⟨_, h1⟩
    · subst h1 h2 h3 h4
      refine ⟨0, .inl rfl, Ow.bx (F := fun q => if true = true ∨ q < len + m then spl F len m (lit Y) q else 0#8) ⟨hOw.ho, hOw.hc, hOw.hl, fun q hq => ?_⟩ 0 rfl⟩
      show _ = if _ then _ else _
      rw [if_pos (.inl rfl), spl_out _ _ _ _ _ (by omega)]; exact hOw.hF q hq
    · subst h1
      refine ⟨k + 1, .inr rfl, hOw.bx (k + 1) (rw := true) ?_⟩
      rw [List.getElem?_cons_succ, List.getElem?_set_self hk, Nat.mul_one]
  obtain ⟨iz, hiz, hV⟩ := hview
  refine Plan.effS hg (w' := w') (v := .slice a' (X ++ Y).length cap') (run_blt2 fun c => ?_) hst' (hw _ _) fun w' hw' => h a' pb' cap' _ r iz w' hOw' hiz hV hw'
  rw [hx, hy]
  simp only [builtin, Sem.run_bind, hr, hl]
  rfl
theorem Bx.two {L L' : List Rg} {i i1 i2 j1 j2 : Nat} {a : Option Addr} {len cc : Nat} {X : List Byte} {r1 r2 : Rg} (h : Bx L i a len cc X) (hi : i = i1 ∨ i = i2) (h1 : L[i1]? = some r1) (h2 : L[i2]? = some r2) (k1 : L'[j1]? = some r1) (k2 : L'[j2]? = some r2) : Bx L' (if i = i1 then j1 else j2) a len cc X := by
  by_cases h0 : i = i1
  · rw [if_pos h0]; exact h.move (by rw [h0]; exact h1) k1
  · rw [if_neg h0]; exact h.move (by rw [hi.resolve_left h0]; exact h2) k2
theorem LV.lift {D : EL} (hf : D.flat) {L L' : List Rg} {i : Nat} {a : Option Addr} {len cc : Nat} {X : List D.α} (h : LV D L i a len cc X) (hs : ∀ r ∈ L, r ∈ L') : ∃ i', LV D L' i' a len cc X := by
  by_cases hn : 0 < len
  · obtain ⟨h1, h2, h3⟩ := h
    obtain ⟨offs, ms, js, os, ps, G, rw, q1, q2, q3, q4, q5⟩ := h3 hn
    obtain ⟨k, hk⟩ := List.mem_iff_getElem?.1 (hs _ (List.mem_of_getElem? q1))
    exact ⟨k, h1, h2, fun _ => ⟨offs, ms, js, os, ps, G, rw, hk, q2, q3, q4, fun j x hx => by
      obtain ⟨b, s1, s2⟩ := q5 j x hx
      exact ⟨b, hf _ _ _ _ s1, s2⟩⟩⟩
  · exact ⟨0, h.1, h.2.1, fun h => absurd h hn⟩
end
end Go.LW
