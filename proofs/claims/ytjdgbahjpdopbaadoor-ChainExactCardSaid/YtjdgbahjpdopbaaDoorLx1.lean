/-
  ENGINE X, PART 1 (own work): walks against a relation. A loop is followed by a chain of its rounds (Iter); a view of bytes with the number of its range; an own slice with all that is known of it.
-/
import Derived.Test.YtjdgbahjpdopbaaDoorLw15
namespace Go.LW
set_option linter.unusedSimpArgs false
set_option linter.unusedVariables false
set_option linter.unusedSectionVars false
open Go Go.RowKit

/-- From s the rounds lead to x. -/
inductive Iter {S X : Type} (step : S → S ⊕ X → Prop) : S → X → Prop
  | done {s : S} {x : X} (h : step s (.inr x)) : Iter step s x
  | more {s s' : S} {x : X} (h : step s (.inl s')) (t : Iter step s' x) : Iter step s x

inductive IterN {S X : Type} (step : S → S ⊕ X → Prop) : Nat → S → X → Prop
  | done {m : Nat} {s : S} {x : X} (h : step s (.inr x)) : IterN step m s x
  | more {m : Nat} {s s' : S} {x : X} (h : step s (.inl s')) (t : IterN step m s' x) : IterN step (m + 1) s x
theorem Iter.n {S X : Type} {step : S → S ⊕ X → Prop} {s : S} {x : X} (h : Iter step s x) : ∃ m, IterN step m s x := by
  induction h with
  | done h => exact ⟨0, .done h⟩
  | more h _ ih => obtain ⟨m, hm⟩ := ih; exact ⟨m + 1, .more h hm⟩

/-- For loops that count: from round i on, up to m. -/
theorem Iter.count {S X : Type} {step : S → S ⊕ X → Prop} {x : X} (f : Nat → S) (m : Nat) (hs : ∀ i, i < m → step (f i) (.inl (f (i + 1)))) (hx : step (f m) (.inr x)) : Iter step (f 0) x := by
  have key : ∀ d i, i + d = m → Iter step (f i) x := by
    intro d
    induction d with
    | zero => intro i hi; obtain rfl : i = m := by omega
              exact .done hx
    | succ d ih => intro i hi; exact .more (hs i (by omega)) (ih (i + 1) (by omega))
  exact key m 0 (by omega)
/-- .. that end behind some round. -/
theorem Iter.stop {S X : Type} {step : S → S ⊕ X → Prop} {x : X} (f : Nat → S) (m : Nat) (hs : ∀ i, i < m → step (f i) (.inl (f (i + 1)))) (hx : step (f m) (.inr x)) (i : Nat) (hi : i ≤ m) : Iter step (f i) x := by
  have key : ∀ d i, i + d = m → Iter step (f i) x := by
    intro d
    induction d with
    | zero => intro i hi; obtain rfl : i = m := by omega
              exact .done hx
    | succ d ih => intro i hi; exact .more (hs i (by omega)) (ih (i + 1) (by omega))
  exact key (m - i) i (by omega)

def iterR {S X : Type} (o : S ⊕ X) (inv : S → Env → World → Prop) (R : Exit → Env → World → Prop) : Exit → Env → World → Prop
  | .normal, e, w => ∃ s, o = .inl s ∧ inv s e w
  | x, e, w => R x e w

section loops
variable {P : Program} {n : Nat} {R : Exit → Env → World → Prop} {e : Env} {w : World}
theorem W.iter {c : Code} {S X : Type} {step : S → S ⊕ X → Prop} {s0 : S} {x : X} (hI : Iter step s0 x) (inv : S → Env → World → Prop) (h0 : inv s0 e w)
    (round : ∀ s o, step s o → (∀ y, o = .inr y → y = x) → ∀ e w, inv s e w → W P n c (iterR o inv R) e w) : W P n (.loop c) R e w := by
  obtain ⟨m, hm⟩ := hI.n
  refine W.loop (fun m e w => ∃ s, IterN step m s x ∧ inv s e w) m ⟨s0, hm, h0⟩ ?_
  rintro m e w ⟨s, hs, hi⟩
  cases hs with
  | done h =>
    refine (round s _ h (fun y hy => (Sum.inr.inj hy).symm) e w hi).mono fun ex e w hr => ?_
    cases ex with
    | normal => obtain ⟨s', hs', _⟩ := hr; cases hs'
    | _ => exact hr
  | more h t =>
    refine (round s _ h (fun y hy => by cases hy) e w hi).mono fun ex e w hr => ?_
    cases ex with
    | normal => obtain ⟨s', hs', hi'⟩ := hr; cases hs'; exact ⟨_, Nat.lt_succ_self _, _, t, hi'⟩
    | _ => exact hr
/-- What follows is proved once, of every state that fits. -/
theorem W.cutN {c : Code} (J : Env → World → Prop) (h : W P n c (thenR J R) e w) (hJ : ∀ e w, J e w → R .normal e w) : W P n c R e w :=
  h.mono fun x e w hx => by cases x <;> first | exact hJ _ _ hx | exact hx
theorem ifT {p A B : Prop} [Decidable p] (h : if p then A else B) (hc : p) : A := by rw [if_pos hc] at h; exact h
theorem ifF {p A B : Prop} [Decidable p] (h : if p then A else B) (hc : ¬ p) : B := by rw [if_neg hc] at h; exact h
theorem iterR_ret {S X : Type} {o : S ⊕ X} {inv : S → Env → World → Prop} (h : R .ret e w) : iterR o inv R .ret e w := h
theorem iterR_exit {S X : Type} {o : S ⊕ X} {inv : S → Env → World → Prop} {id : Nat} (h : R (.exit id) e w) : iterR o inv R (.exit id) e w := h
theorem iterR_norm {S X : Type} {o : S ⊕ X} {inv : S → Env → World → Prop} (h : ∃ s, o = .inl s ∧ inv s e w) : iterR o inv R .normal e w := h
end loops

section step
variable {P : Program} {n : Nat} {K : Pend → Env → World → Prop} {l : List It} {O O' : Pend} {e : Env} {w : World} {i ty : Nat} {d : Tmp} {pos : String} {aft : Array Edge} {gd g : Option (Nat × Bool)}
variable {B : Nat} {w0 : World} {L L' : List Rg}

theorem Plan.cmpP {op : BinOp} {t yt : TypeId} {x y : Operand} {k : IntKind} {a b : Int} {p : Prop} [Decidable p] (hop : isCmp op = true) (hg : wantedE n e g = true) (hx : ev n e x = .int k a) (hy : ev n e y = .int k b) (hp : icmp op a b = decide p)
    (h : Plan P n K l O (upd e d (.bool (decide p))) w) : Plan P n K (⟨i, true, ⟨some d, .binOp op t x y yt, ty, pos, aft, gd⟩, g⟩ :: l) O e w := Plan.cmp hop hg hx hy (by rw [hp]; exact h)
theorem Plan.cmpV {op : BinOp} {t yt : TypeId} {x y : Operand} {k : IntKind} {a b : Int} {p : Prop} [Decidable p] {v : Bool} (hop : isCmp op = true) (hg : wantedE n e g = true) (hx : ev n e x = .int k a) (hy : ev n e y = .int k b) (hp : icmp op a b = decide p) (hv : decide p = v)
    (h : Plan P n K l O (upd e d (.bool v)) w) : Plan P n K (⟨i, true, ⟨some d, .binOp op t x y yt, ty, pos, aft, gd⟩, g⟩ :: l) O e w := Plan.cmp hop hg hx hy (by rw [hp, hv]; exact h)
theorem icmp_eq {a b : Int} : icmp .eql a b = decide (a = b) := by unfold icmp; rw [Bool.eq_iff_iff]; simp
theorem icmp_ne {a b : Int} : icmp .neq a b = decide (a ≠ b) := by unfold icmp; rw [Bool.eq_iff_iff]; simp
theorem icmp_lt {a b : Int} : icmp .lss a b = decide (a < b) := rfl
theorem icmp_le {a b : Int} : icmp .leq a b = decide (a ≤ b) := rfl
theorem icmp_gt {a b : Int} : icmp .gtr a b = decide (b < a) := rfl
theorem icmp_ge {a b : Int} : icmp .geq a b = decide (b ≤ a) := rfl
theorem icmp_eqN {a b : Nat} : icmp .eql a b = decide (a = b) := by rw [icmp_eq]; exact decide_eq_decide.2 (by omega)
theorem icmp_neN {a b : Nat} : icmp .neq a b = decide (a ≠ b) := by rw [icmp_ne]; exact decide_eq_decide.2 (by omega)
theorem icmp_ltN {a b : Nat} : icmp .lss a b = decide (a < b) := decide_eq_decide.2 (by omega)
theorem icmp_leN {a b : Nat} : icmp .leq a b = decide (a ≤ b) := decide_eq_decide.2 (by omega)
theorem icmp_gtN {a b : Nat} : icmp .gtr a b = decide (b < a) := decide_eq_decide.2 (by omega)
theorem icmp_geN {a b : Nat} : icmp .geq a b = decide (b ≤ a) := decide_eq_decide.2 (by omega)
theorem icmp_eqU {s : Nat} {a b : BitVec s} : icmp .eql (a.toNat : Int) (b.toNat : Int) = decide (a = b) := by rw [icmp_eqN]; exact decide_eq_decide.2 ⟨BitVec.eq_of_toNat_eq, fun h => by rw [h]⟩
theorem icmp_neU {s : Nat} {a b : BitVec s} : icmp .neq (a.toNat : Int) (b.toNat : Int) = decide (a ≠ b) := by rw [icmp_neN]; exact decide_eq_decide.2 ⟨fun h h2 => h (by rw [h2]), fun h h2 => h (BitVec.eq_of_toNat_eq h2)⟩

/-- arrays of numbers compared, as a bool that is known -/
theorem Plan.eqArrV {t yt : TypeId} {x y : Operand} {s m : Nat} {kd : IntKind} {F G : Nat → BitVec s} {b : Bool} (ha : arrIB P t m kd = true) (hg : wantedE n e g = true) (hx : ev n e x = AG [(m, fun q => VU kd (F q))]) (hy : ev n e y = AG [(m, fun q => VU kd (G q))]) (hb : eqB m F G = b)
    (h : Plan P n K l O (upd e d (.bool b)) w) : Plan P n K (⟨i, true, ⟨some d, .binOp .eql t x y yt, ty, pos, aft, gd⟩, g⟩ :: l) O e w := Plan.eqArr ha hg hx hy (by rw [hb]; exact h)
theorem Plan.neArrV {t yt : TypeId} {x y : Operand} {s m : Nat} {kd : IntKind} {F G : Nat → BitVec s} {b : Bool} (ha : arrIB P t m kd = true) (hg : wantedE n e g = true) (hx : ev n e x = AG [(m, fun q => VU kd (F q))]) (hy : ev n e y = AG [(m, fun q => VU kd (G q))]) (hb : eqB m F G = b)
    (h : Plan P n K l O (upd e d (.bool (!b))) w) : Plan P n K (⟨i, true, ⟨some d, .binOp .neq t x y yt, ty, pos, aft, gd⟩, g⟩ :: l) O e w := Plan.neArr ha hg hx hy (by rw [hb]; exact h)

/-! addresses within a range -/
theorem Plan.idxArrO {t : TypeId} {x y : Operand} {b o o' j len sz : Nat} {k : IntKind} (ha : arrB P t len sz = true) (hg : wantedE n e g = true) (hx : ev n e x = .pointer (some ⟨b, o, none⟩)) (hy : ev n e y = .int k (j : Int)) (hj : j < len) (ho : o + j * sz = o')
    (h : Plan P n K l O (upd e d (.pointer (some ⟨b, o', none⟩))) w) : Plan P n K (⟨i, true, ⟨some d, .indexAddr t x y, ty, pos, aft, gd⟩, g⟩ :: l) O e w := Plan.idxArr ha hg hx hy hj (by rw [ho]; exact h)
theorem Plan.idxSlO {t : TypeId} {x y : Operand} {b o o' j len cap sz : Nat} {k : IntKind} (ha : slB P t sz = true) (hg : wantedE n e g = true) (hx : ev n e x = .slice (some ⟨b, o, none⟩) len cap) (hy : ev n e y = .int k (j : Int)) (hj : j < len) (ho : o + j * sz = o')
    (h : Plan P n K l O (upd e d (.pointer (some ⟨b, o', none⟩))) w) : Plan P n K (⟨i, true, ⟨some d, .indexAddr t x y, ty, pos, aft, gd⟩, g⟩ :: l) O e w := Plan.idxSl ha hg hx hy hj (by rw [ho]; exact h)
theorem Plan.fieldAddrO {t : TypeId} {x : Operand} {b o o' f : Nat} (off : Nat) (hf : fieldB P t f off = true) (hg : wantedE n e g = true) (hx : ev n e x = .pointer (some ⟨b, o, none⟩)) (ho : o + off = o')
    (h : Plan P n K l O (upd e d (.pointer (some ⟨b, o', none⟩))) w) : Plan P n K (⟨i, true, ⟨some d, .fieldAddr t x f, ty, pos, aft, gd⟩, g⟩ :: l) O e w := Plan.fieldAddr off hf hg hx (by rw [ho]; exact h)
end step

/-! ### views: which range it is -/
/-- The slice (a, len, cc) reads as the bytes X, out of range i (or it is empty). -/
def Bx (L : List Rg) (i : Nat) (a : Option Addr) (len cc : Nat) (X : List Byte) : Prop :=
  X.length = len ∧ len ≤ cc ∧ (0 < len → ∃ (offs ms js os : Nat) (ps : Option Nat) (G : Nat → Byte) (rw : Bool), L[i]? = some ⟨ps, offs, ms, fun q => VU .u8 (G q), rw⟩ ∧ SlV a ps os len ∧ os = offs + js ∧ js + len ≤ ms ∧ ∀ q, q < len → lit X q = G (js + q))
theorem Bx.bs {L : List Rg} {i : Nat} {a : Option Addr} {len cc : Nat} {X : List Byte} (h : Bx L i a len cc X) (hn : 0 < len) : Bs L a len cc (lit X) := by
  obtain ⟨hl, hc, h⟩ := h
  obtain ⟨offs, ms, js, os, ps, G, rw, h1, h2, h3, h4, h5⟩ := h hn
  exact ⟨i, offs, ms, js, os, ps, G, rw, h1, h2, h3, h4, hc, h5⟩
/-- where a range of bytes is known, the empty slice too reads out of one -/
theorem Bx.bs' {L : List Rg} {i : Nat} {a : Option Addr} {len cc : Nat} {X : List Byte} (h : Bx L i a len cc X) (k : Nat) {ps : Option Nat} {offs ms : Nat} {G : Nat → Byte} {rw : Bool} (hL : L[k]? = some ⟨ps, offs, ms, fun q => VU .u8 (G q), rw⟩) : Bs L a len cc (lit X) := by
  by_cases hn : 0 < len
  · exact h.bs hn
  · obtain ⟨hl, hc, h⟩ := h
    obtain rfl : len = 0 := by omega
    exact ⟨k, offs, ms, 0, offs, ps, G, rw, hL, fun h0 => absurd h0 (Nat.lt_irrefl 0), rfl, Nat.zero_le _, hc, fun q hq => absurd hq (Nat.not_lt_zero q)⟩
theorem Bx.hl {L : List Rg} {i : Nat} {a : Option Addr} {len cc : Nat} {X : List Byte} (h : Bx L i a len cc X) : X.length = len := h.1
theorem Bs.bx {L : List Rg} {a : Option Addr} {len cc : Nat} {X : List Byte} (h : Bs L a len cc (lit X)) (hl : X.length = len) : ∃ i, Bx L i a len cc X := by
  obtain ⟨i, offs, ms, js, os, ps, G, rw, h1, h2, h3, h4, h5, h6⟩ := h
  exact ⟨i, hl, h5, fun _ => ⟨offs, ms, js, os, ps, G, rw, h1, h2, h3, h4, h6⟩⟩
theorem Bx.nil {L : List Rg} (i : Nat) {a : Option Addr} {cc : Nat} : Bx L i a 0 cc [] := ⟨rfl, Nat.zero_le _, fun h => absurd h (Nat.lt_irrefl 0)⟩
theorem Bx.le {L : List Rg} {i : Nat} {a : Option Addr} {len cc : Nat} {X : List Byte} (h : Bx L i a len cc X) : len ≤ cc := h.2.1
theorem Bx.app {L : List Rg} {i : Nat} {a : Option Addr} {len cc : Nat} {X : List Byte} (h : Bx L i a len cc X) (C : List Rg) : Bx (C ++ L) (i + C.length) a len cc X := by
  obtain ⟨hl, hc, h⟩ := h
  refine ⟨hl, hc, fun hn => ?_⟩
  obtain ⟨offs, ms, js, os, ps, G, rw, h1, h2⟩ := h hn
  refine ⟨offs, ms, js, os, ps, G, rw, ?_, h2⟩
  rw [List.getElem?_append_right (by omega), Nat.add_sub_cancel]; exact h1
theorem Bx.seg {L : List Rg} {i : Nat} {a : Option Addr} {len cc : Nat} {X : List Byte} (h : Bx L i a len cc X) {lo hi : Nat} (hb : lo ≤ hi ∧ hi ≤ len) : Bx L i (if cc = lo then a else a.map (·.add (lo * 1))) (hi - lo) (cc - lo) (seg X lo hi) := by
  obtain ⟨hl, hc, h⟩ := h
  refine ⟨seg_length (by omega), by omega, fun hn => ?_⟩
  obtain ⟨offs, ms, js, os, ps, G, rw, h1, h2, h3, h4, h6⟩ := h (by omega)
  refine ⟨offs, ms, js + lo, os + lo, ps, G, rw, h1, ?_, by omega, by omega, fun q hq => ?_⟩
  · intro hn
    obtain ⟨b, hb1, hb2⟩ := h2 (by omega)
    refine ⟨b, hb1, ?_⟩
    rw [if_neg (by omega), hb2]
    simp [Addr.add]
  · rw [lit_seg (by omega) (by omega), h6 _ (by omega), Nat.add_assoc]
/-- an own slice: from the head of its block -/
structure Ow (a : Option Addr) (pb : Option Nat) (len cap : Nat) (F : Nat → Byte) (X : List Byte) : Prop where
  ho : OwnSl a pb cap
  hc : len ≤ cap
  hl : X.length = len
  hF : ∀ q, q < len → lit X q = F q
theorem Ow.nil : Ow none none 0 0 (fun _ => 0#8) [] := ⟨OwnSl.nil, Nat.le_refl _, rfl, fun q hq => absurd hq (Nat.not_lt_zero q)⟩
theorem Ow.bx {L : List Rg} {a : Option Addr} {pb : Option Nat} {len cap : Nat} {F : Nat → Byte} {X : List Byte} (h : Ow a pb len cap F X) (k : Nat) (hL : L[k]? = some ⟨pb, 0, cap, fun q => VU .u8 (F q), true⟩) : Bx L k a len cap X :=
  ⟨h.hl, h.hc, fun _ => ⟨0, cap, 0, 0, pb, F, true, hL, h.ho.sl h.hc, rfl, by have := h.hc; omega, fun q hq => by rw [Nat.zero_add]; exact h.hF q hq⟩⟩
/-- a slice of an array that is a variable -/
theorem Bx.arr {L : List Rg} (k : Nat) {b offs lo n cc m : Nat} {G : Nat → Byte} {rw : Bool} (h : L[k]? = some ⟨some b, offs, m, fun q => VU .u8 (G q), rw⟩) (hn : lo + n ≤ m) (hc : n ≤ cc) : Bx L k (some ⟨b, offs + lo, none⟩) n cc (dl n fun q => G (lo + q)) :=
  ⟨dl_length _ _, hc, fun _ => ⟨offs, m, lo, offs + lo, some b, G, rw, h, fun _ => ⟨b, rfl, rfl⟩, rfl, hn, fun q hq => lit_dl _ hq⟩⟩
theorem Bx.arr0 {L : List Rg} (k : Nat) {b offs n cc m : Nat} {G : Nat → Byte} {rw : Bool} (h : L[k]? = some ⟨some b, offs, m, fun q => VU .u8 (G q), rw⟩) (hn : n ≤ m) (hc : n ≤ cc) : Bx L k (some ⟨b, offs, none⟩) n cc (dl n G) :=
  ⟨dl_length _ _, hc, fun _ => ⟨offs, m, 0, offs, some b, G, rw, h, fun _ => ⟨b, rfl, rfl⟩, rfl, by omega, fun q hq => by rw [Nat.zero_add]; exact lit_dl _ hq⟩⟩
theorem Ow.arr {b m : Nat} {G : Nat → Byte} : Ow (some ⟨b, 0, none⟩) (some b) m m G (dl m G) := ⟨.inr ⟨b, rfl, rfl⟩, Nat.le_refl _, dl_length _ _, fun q hq => lit_dl _ hq⟩

section step
variable {P : Program} {n : Nat} {K : Pend → Env → World → Prop} {l : List It} {O O' : Pend} {e : Env} {w : World} {i ty : Nat} {d : Tmp} {pos : String} {aft : Array Edge} {gd g : Option (Nat × Bool)}
variable {B : Nat} {w0 : World} {L L' : List Rg}

/-- the address of an element of a view -/
theorem Plan.idxV {t : TypeId} {x y : Operand} {k : IntKind} {ix len cc j : Nat} {a : Option Addr} {X : List Byte} (hX : Bx L ix a len cc X) (ha : slB P t 1 = true) (hg : wantedE n e g = true) (hx : ev n e x = .slice a len cc) (hy : ev n e y = .int k (j : Int)) (hj : j < len)
    (h : Plan P n K l O (upd e d (.pointer (a.map fun z => ⟨z.block, z.off + j, none⟩))) w) : Plan P n K (⟨i, true, ⟨some d, .indexAddr t x y, ty, pos, aft, gd⟩, g⟩ :: l) O e w := by
  obtain ⟨hl, hc, hX⟩ := hX
  obtain ⟨offs, ms, js, os, ps, G, rw, h1, h2, h3⟩ := hX (by omega)
  obtain ⟨b, hb1, hb2⟩ := h2 (by omega)
  subst hb2
  exact Plan.idxSl1 ha hg hx hy hj h
theorem Plan.loadV (hst : St B w0 L w) {t : TypeId} {x : Operand} {ix len cc j : Nat} {a : Option Addr} {X : List Byte} (hX : Bx L ix a len cc X) (hg : wantedE n e g = true) (hx : ev n e x = .pointer (a.map fun z => ⟨z.block, z.off + j, none⟩)) (hj : j < len) (ht : scalarT P t = true)
    (h : ∀ r, L[ix]? = some r → Plan P n K l ((i, r.at) :: O) (upd e d (VU .u8 (lit X j))) w) : Plan P n K (⟨i, true, ⟨some d, .load t x, ty, pos, aft, gd⟩, g⟩ :: l) O e w := by
  obtain ⟨hl, hc, hX⟩ := hX
  obtain ⟨offs, ms, js, os, ps, G, rw, h1, h2, h3, h4, h6⟩ := hX (by omega)
  obtain ⟨b, hb1, hb2⟩ := h2 (by omega)
  subst hb2 hb1
  have hx' : ev n e x = .pointer (some ⟨b, offs + (js + j), none⟩) := by rw [hx, ← Nat.add_assoc, ← h3]; rfl
  refine Plan.load1 hst ix hg hx' h1 (by omega) ht ?_
  have := h _ h1
  rw [h6 j hj] at this
  exact this
/-- an element of an own slice is set -/
theorem Plan.storeO (hst : St B w0 L w) {t : TypeId} {x y : Operand} {len cap j : Nat} {a : Option Addr} {pb : Option Nat} {F : Nat → Byte} {X : List Byte} {Y : Byte} (k : Nat) (hO : Ow a pb len cap F X) (hg : wantedE n e g = true) (hx : ev n e x = .pointer (a.map fun z => ⟨z.block, z.off + j, none⟩)) (hy : ev n e y = VU .u8 Y)
    (hL : L[k]? = some ⟨pb, 0, cap, fun q => VU .u8 (F q), true⟩) (hj : j < len) (ht : szT P t 1 = true) (hw : O.all (fun p => waitsO ⟨none, .store t x y, ty, pos, aft, gd⟩ p.1) = true)
    (h : ∀ w' F', Ow a pb len cap F' (X.set j Y) → St B w0 (L.set k ⟨pb, 0, cap, fun q => VU .u8 (F' q), true⟩) w' → Plan P n K l [] e w') : Plan P n K (⟨i, false, ⟨none, .store t x y, ty, pos, aft, gd⟩, g⟩ :: l) O e w := by
  have hOc := hO.hc
  obtain ⟨b, rfl, rfl⟩ := hO.ho.pos (by omega)
  refine Plan.storeU (off := 0) hst k hg (by rw [hx]; rfl) hy hL (by omega) ht hw fun w' h' => h w' _ ⟨hO.ho, hOc, by rw [List.length_set]; exact hO.hl, fun q hq => ?_⟩ h'
  have h1 := hO.hF q hq
  have h2 := hO.hl
  unfold lit at h1 ⊢
  rw [upd_at]
  by_cases hqj : q = j
  · subst hqj; rw [if_pos rfl, List.getD_eq_getElem?_getD, List.getElem?_set_self (by omega)]; rfl
  · rw [if_neg hqj, ← h1, List.getD_eq_getElem?_getD, List.getD_eq_getElem?_getD, List.getElem?_set_ne (Ne.symm hqj)]
/-- append of a view onto an own slice -/
theorem Plan.appendO (hst : St B w0 L w) {t t' sz : TypeId} {x y : Operand} {len cap m cy iy : Nat} {a ay : Option Addr} {pb : Option Nat} {F : Nat → Byte} {X Y : List Byte} (k : Nat) (hO : Ow a pb len cap F X) (he : elD P t = some (1, 1, some (VU .u8 0#8))) (ht' : slB P t' sz = true) (hg : wantedE n e g = true)
    (hx : ev n e x = .slice a len cap) (hy : ev n e y = .slice ay m cy) (hL : L[k]? = some ⟨pb, 0, cap, fun q => VU .u8 (F q), true⟩) (hY : Bx L iy ay m cy Y) (hb : len + m ≤ 140737488355328)
    (hw : ∀ r, EffO aft O (L.set k r) O')
    (h : ∀ a' pb' cap' (F' : Nat → Byte) w', Ow a' pb' (X ++ Y).length cap' F' (X ++ Y) → St B w0 (L.set k ⟨pb', 0, cap', fun q => VU .u8 (F' q), true⟩) w' → Plan P n K l O' (updO e (some d) (.slice a' (X ++ Y).length cap')) w') :
    Plan P n K (⟨i, false, ⟨some d, .call ⟨.builtin .append, #[x, y], #[t, t']⟩, ty, pos, aft, gd⟩, g⟩ :: l) O e w :=
  Plan.appendL hst k he ht' hg hx hy hL hO.ho hO.hc hO.hl hO.hF (hY.bs' k hL) hY.hl hb hw fun a' pb' cap' F' w' h1 h2 h3 h4 => h a' pb' cap' F' w' ⟨h1, h2, rfl, h3⟩ h4
theorem St.nilR (h : St B w0 L w) : St B w0 (⟨none, 0, 0, fun q => VU .u8 ((fun _ => 0#8 : Nat → Byte) q), true⟩ :: L) w := h.ownNil
end step
end Go.LW
