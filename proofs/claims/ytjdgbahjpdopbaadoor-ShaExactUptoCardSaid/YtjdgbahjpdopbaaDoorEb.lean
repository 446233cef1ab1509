import Derived.Test.YtjdgbahjpdopbaaDoorEa
import Derived.WideShapes
import Derived.Laws.Externs
import Derived.Lib.SlBytesConst
import Derived.Laws.StructEq
import Derived.Lib.MakeNoZero
import Derived.Laws.IdiomStrings
import Derived.OpenShut
import Derived.ChangeSlices
import Derived.SizedLaws
namespace Go.LW
set_option linter.unusedSimpArgs false
set_option linter.unusedVariables false
set_option linter.unusedSectionVars false
open Go Go.RowKit
inductive Iter {S X : Type} (step : S → S ⊕ X → Prop) : S → X → Prop
 | done {s : S} {x : X} (h : step s (.inr x)) : Iter step s x
 | more {s s' : S} {x : X} (h : step s (.inl s')) (t : Iter step s' x) : Iter step s x
inductive IterN {S X : Type} (step : S → S ⊕ X → Prop) : Nat → S → X → Prop
 | done {m : Nat} {s : S} {x : X} (h : step s (.inr x)) : IterN step m s x
 | more {m : Nat} {s s' : S} {x : X} (h : step s (.inl s')) (t : IterN step m s' x) : IterN step (m + 1) s x
theorem Iter.n {S X : Type} {step : S → S ⊕ X → Prop} {s : S} {x : X} (h : Iter step s x) : ∃ m, IterN step m s x := by
 induction h with
 | done h => exact ⟨0, .done h⟩
 | more h _ ih => obtain ⟨m, hm⟩ := ih; exact ⟨m + 1, .more h hm⟩
theorem Iter.count {S X : Type} {step : S → S ⊕ X → Prop} {x : X} (f : Nat → S) (m : Nat) (hs : ∀ i, i < m → step (f i) (.inl (f (i + 1)))) (hx : step (f m) (.inr x)) : Iter step (f 0) x := by
 have key : ∀ d i, i + d = m → Iter step (f i) x := by
   intro d
   induction d with
   | zero => intro i hi; obtain rfl : i = m := by omega
             exact .done hx
   | succ d ih => intro i hi; exact .more (hs i (by omega)) (ih (i + 1) (by omega))
 exact key m 0 (by omega)
def iterR {S X : Type} (o : S ⊕ X) (inv : S → Env → World → Prop) (R : Exit → Env → World → Prop) : Exit → Env → World → Prop
 | .normal, e, w => ∃ s, o = .inl s ∧ inv s e w
 | x, e, w => R x e w
section loops
variable {P : Program} {n : Nat} {R : Exit → Env → World → Prop} {e : Env} {w : World}
theorem W.iter {c : Code} {S X : Type} {step : S → S ⊕ X → Prop} {s0 : S} {x : X} (hI : Iter step s0 x) (inv : S → Env → World → Prop) (h0 : inv s0 e w)
   (round : ∀ s o, step s o → (∀ y, o = .inr y → y = x) → ∀ e w, inv s e w → W P n c (iterR o inv R) e w) : W P n (.loop c) R e w := by
 obtain ⟨m, hm⟩ := hI.n
 refine W.loop (fun m e w => ∃ s, IterN step m s x ∧ inv s e w) m ⟨s0, hm, h0⟩ ?_
 rintro m e w ⟨s, hs, hi⟩
 cases hs with
 | done h =>
   refine (round s _ h (fun y hy => (Sum.inr.inj hy).symm) e w hi).mono fun ex e w hr => ?_
   cases ex with
   | normal => obtain ⟨s', hs', _⟩ := hr; cases hs'
   | _ => exact hr
 | more h t =>
   refine (round s _ h (fun y hy => by cases hy) e w hi).mono fun ex e w hr => ?_
   cases ex with
   | normal => obtain ⟨s', hs', hi'⟩ := hr; cases hs'; exact ⟨_, Nat.lt_succ_self _, _, t, hi'⟩
   | _ => exact hr
theorem W.cutN {c : Code} (J : Env → World → Prop) (h : W P n c (thenR J R) e w) (hJ : ∀ e w, J e w → R .normal e w) : W P n c R e w :=
 h.mono fun x e w hx => by cases x <;> first | exact hJ _ _ hx | exact hx
theorem ifT {p A B : Prop} [Decidable p] (h : if p then A else B) (hc : p) : A := by rw [if_pos hc] at h; exact h
theorem ifF {p A B : Prop} [Decidable p] (h : if p then A else B) (hc : ¬ p) : B := by rw [if_neg hc] at h; exact h
theorem iterR_ret {S X : Type} {o : S ⊕ X} {inv : S → Env → World → Prop} (h : R .ret e w) : iterR o inv R .ret e w := h
theorem iterR_exit {S X : Type} {o : S ⊕ X} {inv : S → Env → World → Prop} {id : Nat} (h : R (.exit id) e w) : iterR o inv R (.exit id) e w := h
theorem iterR_norm {S X : Type} {o : S ⊕ X} {inv : S → Env → World → Prop} (h : ∃ s, o = .inl s ∧ inv s e w) : iterR o inv R .normal e w := h
end loops
section step
variable {P : Program} {n : Nat} {K : Pend → Env → World → Prop} {l : List It} {O O' : Pend} {e : Env} {w : World} {i ty : Nat} {d : Tmp} {pos : String} {aft : Array Edge} {gd g : Option (Nat × Bool)}
variable {B : Nat} {w0 : World} {L L' : List Rg}
theorem Plan.cmpP {op : BinOp} {t yt : TypeId} {x y : Operand} {k : IntKind} {a b : Int} {p : Prop} [Decidable p] (hop : isCmp op = true) (hg : wantedE n e g = true) (hx : ev n e x = .int k a) (hy : ev n e y = .int k b) (hp : icmp op a b = decide p)
   (h : Plan P n K l O (upd e d (.bool (decide p))) w) : Plan P n K (⟨i, true, ⟨some d, .binOp op t x y yt, ty, pos, aft, gd⟩, g⟩ :: l) O e w := Plan.cmp hop hg hx hy (by rw [hp]; exact h)
theorem Plan.cmpV {op : BinOp} {t yt : TypeId} {x y : Operand} {k : IntKind} {a b : Int} {p : Prop} [Decidable p] {v : Bool} (hop : isCmp op = true) (hg : wantedE n e g = true) (hx : ev n e x = .int k a) (hy : ev n e y = .int k b) (hp : icmp op a b = decide p) (hv : decide p = v)
   (h : Plan P n K l O (upd e d (.bool v)) w) : Plan P n K (⟨i, true, ⟨some d, .binOp op t x y yt, ty, pos, aft, gd⟩, g⟩ :: l) O e w := Plan.cmp hop hg hx hy (by rw [hp, hv]; exact h)
theorem icmp_eq {a b : Int} : icmp .eql a b = decide (a = b) := by unfold icmp; rw [Bool.eq_iff_iff]; simp
theorem icmp_ne {a b : Int} : icmp .neq a b = decide (a ≠ b) := by unfold icmp; rw [Bool.eq_iff_iff]; simp
theorem icmp_lt {a b : Int} : icmp .lss a b = decide (a < b) := rfl
theorem icmp_gt {a b : Int} : icmp .gtr a b = decide (b < a) := rfl
theorem icmp_ge {a b : Int} : icmp .geq a b = decide (b ≤ a) := rfl
theorem icmp_eqN {a b : Nat} : icmp .eql a b = decide (a = b) := by rw [icmp_eq]; exact decide_eq_decide.2 (by omega)
theorem icmp_neN {a b : Nat} : icmp .neq a b = decide (a ≠ b) := by rw [icmp_ne]; exact decide_eq_decide.2 (by omega)
theorem icmp_ltN {a b : Nat} : icmp .lss a b = decide (a < b) := decide_eq_decide.2 (by omega)
theorem icmp_gtN {a b : Nat} : icmp .gtr a b = decide (b < a) := decide_eq_decide.2 (by omega)
theorem Plan.eqArrV {t yt : TypeId} {x y : Operand} {s m : Nat} {kd : IntKind} {F G : Nat → BitVec s} {b : Bool} (ha : arrIB P t m kd = true) (hg : wantedE n e g = true) (hx : ev n e x = AG [(m, fun q => VU kd (F q))]) (hy : ev n e y = AG [(m, fun q => VU kd (G q))]) (hb : eqB m F G = b)
   (h : Plan P n K l O (upd e d (.bool b)) w) : Plan P n K (⟨i, true, ⟨some d, .binOp .eql t x y yt, ty, pos, aft, gd⟩, g⟩ :: l) O e w := Plan.eqArr ha hg hx hy (by rw [hb]; exact h)
theorem Plan.idxArrO {t : TypeId} {x y : Operand} {b o o' j len sz : Nat} {k : IntKind} (ha : arrB P t len sz = true) (hg : wantedE n e g = true) (hx : ev n e x = .pointer (some ⟨b, o, none⟩)) (hy : ev n e y = .int k (j : Int)) (hj : j < len) (ho : o + j * sz = o')
   (h : Plan P n K l O (upd e d (.pointer (some ⟨b, o', none⟩))) w) : Plan P n K (⟨i, true, ⟨some d, .indexAddr t x y, ty, pos, aft, gd⟩, g⟩ :: l) O e w := Plan.idxArr ha hg hx hy hj (by rw [ho]; exact h)
end step
def Bx (L : List Rg) (i : Nat) (a : Option Addr) (len cc : Nat) (X : List Byte) : Prop :=
 X.length = len ∧ len ≤ cc ∧ (0 < len → ∃ (offs ms js os : Nat) (ps : Option Nat) (G : Nat → Byte) (rw : Bool), L[i]? = some ⟨ps, offs, ms, fun q => VU .u8 (G q), rw⟩ ∧ SlV a ps os len ∧ os = offs + js ∧ js + len ≤ ms ∧ ∀ q, q < len → lit X q = G (js + q))
theorem Bx.bs {L : List Rg} {i : Nat} {a : Option Addr} {len cc : Nat} {X : List Byte} (h : Bx L i a len cc X) (hn : 0 < len) : Bs L a len cc (lit X) := by
 obtain ⟨hl, hc, h⟩ := h
 obtain ⟨offs, ms, js, os, ps, G, rw, h1, h2, h3, h4, h5⟩ := h hn
 exact ⟨i, offs, ms, js, os, ps, G, rw, h1, h2, h3, h4, hc, h5⟩
theorem Bx.bs' {L : List Rg} {i : Nat} {a : Option Addr} {len cc : Nat} {X : List Byte} (h : Bx L i a len cc X) (k : Nat) {ps : Option Nat} {offs ms : Nat} {G : Nat → Byte} {rw : Bool} (hL : L[k]? = some ⟨ps, offs, ms, fun q => VU .u8 (G q), rw⟩) : Bs L a len cc (lit X) := by
 by_cases hn : 0 < len
 · exact h.bs hn
 · obtain ⟨hl, hc, h⟩ := h
   obtain rfl : len = 0 := by omega
   exact ⟨k, offs, ms, 0, offs, ps, G, rw, hL, fun h0 => absurd h0 (Nat.lt_irrefl 0), rfl, Nat.zero_le _, hc, fun q hq => absurd hq (Nat.not_lt_zero q)⟩
theorem Bx.hl {L : List Rg} {i : Nat} {a : Option Addr} {len cc : Nat} {X : List Byte} (h : Bx L i a len cc X) : X.length = len := h.1
theorem Bs.bx {L : List Rg} {a : Option Addr} {len cc : Nat} {X : List Byte} (h : Bs L a len cc (lit X)) (hl : X.length = len) : ∃ i, Bx L i a len cc X := by
 obtain ⟨i, offs, ms, js, os, ps, G, rw, h1, h2, h3, h4, h5, h6⟩ := h
 exact ⟨i, hl, h5, fun _ => ⟨offs, ms, js, os, ps, G, rw, h1, h2, h3, h4, h6⟩⟩
theorem Bx.nil {L : List Rg} (i : Nat) {a : Option Addr} {cc : Nat} : Bx L i a 0 cc [] := ⟨rfl, Nat.zero_le _, fun h => absurd h (Nat.lt_irrefl 0)⟩
theorem Bx.le {L : List Rg} {i : Nat} {a : Option Addr} {len cc : Nat} {X : List Byte} (h : Bx L i a len cc X) : len ≤ cc := h.2.1
theorem Bx.app {L : List Rg} {i : Nat} {a : Option Addr} {len cc : Nat} {X : List Byte} (h : Bx L i a len cc X) (C : List Rg) : Bx (C ++ L) (i + C.length) a len cc X := by
 obtain ⟨hl, hc, h⟩ := h
 refine ⟨hl, hc, fun hn => ?_⟩
 obtain ⟨offs, ms, js, os, ps, G, rw, h1, h2⟩ := h hn
 refine ⟨offs, ms, js, os, ps, G, rw, ?_, h2⟩
 rw [List.getElem?_append_right (by omega), Nat.add_sub_cancel]; exact h1
theorem Bx.seg {L : List Rg} {i : Nat} {a : Option Addr} {len cc : Nat} {X : List Byte} (h : Bx L i a len cc X) {lo hi : Nat} (hb : lo ≤ hi ∧ hi ≤ len) : Bx L i (if cc = lo then a else a.map (·.add (lo * 1))) (hi - lo) (cc - lo) (seg X lo hi) := by
 obtain ⟨hl, hc, h⟩ := h
 refine ⟨seg_length (by omega), by omega, fun hn => ?_⟩
 obtain ⟨offs, ms, js, os, ps, G, rw, h1, h2, h3, h4, h6⟩ := h (by omega)
 refine ⟨offs, ms, js + lo, os + lo, ps, G, rw, h1, ?_, by omega, by omega, fun q hq => ?_⟩
 · intro hn
   obtain ⟨b, hb1, hb2⟩ := h2 (by omega)
   refine ⟨b, hb1, ?_⟩
   rw [if_neg (by omega), hb2]
   simp [Addr.add]
 · rw [lit_seg (by omega) (by omega), h6 _ (by omega), Nat.add_assoc]
structure Ow (a : Option Addr) (pb : Option Nat) (len cap : Nat) (F : Nat → Byte) (X : List Byte) : Prop where
 ho : OwnSl a pb cap
 hc : len ≤ cap
 hl : X.length = len
 hF : ∀ q, q < len → lit X q = F q
theorem Ow.nil : Ow none none 0 0 (fun _ => 0#8) [] := ⟨OwnSl.nil, Nat.le_refl _, rfl, fun q hq => absurd hq (Nat.not_lt_zero q)⟩
theorem Ow.bx {L : List Rg} {a : Option Addr} {pb : Option Nat} {len cap : Nat} {F : Nat → Byte} {X : List Byte} (h : Ow a pb len cap F X) (k : Nat) {rw : Bool} (hL : L[k]? = some ⟨pb, 0, cap, fun q => VU .u8 (F q), rw⟩) : Bx L k a len cap X :=
 ⟨h.hl, h.hc, fun _ => ⟨0, cap, 0, 0, pb, F, rw, hL, h.ho.sl h.hc, rfl, by have := h.hc; omega, fun q hq => by rw [Nat.zero_add]; exact h.hF q hq⟩⟩
theorem Bx.arr {L : List Rg} (k : Nat) {b offs lo n cc m : Nat} {G : Nat → Byte} {rw : Bool} (h : L[k]? = some ⟨some b, offs, m, fun q => VU .u8 (G q), rw⟩) (hn : lo + n ≤ m) (hc : n ≤ cc) : Bx L k (some ⟨b, offs + lo, none⟩) n cc (dl n fun q => G (lo + q)) :=
 ⟨dl_length _ _, hc, fun _ => ⟨offs, m, lo, offs + lo, some b, G, rw, h, fun _ => ⟨b, rfl, rfl⟩, rfl, hn, fun q hq => lit_dl _ hq⟩⟩
theorem Ow.arr {b m : Nat} {G : Nat → Byte} : Ow (some ⟨b, 0, none⟩) (some b) m m G (dl m G) := ⟨.inr ⟨b, rfl, rfl⟩, Nat.le_refl _, dl_length _ _, fun q hq => lit_dl _ hq⟩
section step
variable {P : Program} {n : Nat} {K : Pend → Env → World → Prop} {l : List It} {O O' : Pend} {e : Env} {w : World} {i ty : Nat} {d : Tmp} {pos : String} {aft : Array Edge} {gd g : Option (Nat × Bool)}
variable {B : Nat} {w0 : World} {L L' : List Rg}
theorem Plan.idxV {t : TypeId} {x y : Operand} {k : IntKind} {ix len cc j : Nat} {a : Option Addr} {X : List Byte} (hX : Bx L ix a len cc X) (ha : slB P t 1 = true) (hg : wantedE n e g = true) (hx : ev n e x = .slice a len cc) (hy : ev n e y = .int k (j : Int)) (hj : j < len)
   (h : Plan P n K l O (upd e d (.pointer (a.map fun z => ⟨z.block, z.off + j, none⟩))) w) : Plan P n K (⟨i, true, ⟨some d, .indexAddr t x y, ty, pos, aft, gd⟩, g⟩ :: l) O e w := by
 obtain ⟨hl, hc, hX⟩ := hX
 obtain ⟨offs, ms, js, os, ps, G, rw, h1, h2, h3⟩ := hX (by omega)
 obtain ⟨b, hb1, hb2⟩ := h2 (by omega)
 subst hb2
 exact Plan.idxSl1 ha hg hx hy hj h
theorem Plan.loadV (hst : St B w0 L w) {t : TypeId} {x : Operand} {ix len cc j : Nat} {a : Option Addr} {X : List Byte} (hX : Bx L ix a len cc X) (hg : wantedE n e g = true) (hx : ev n e x = .pointer (a.map fun z => ⟨z.block, z.off + j, none⟩)) (hj : j < len) (ht : scalarT P t = true)
   (h : ∀ r, L[ix]? = some r → Plan P n K l ((i, r.at) :: O) (upd e d (VU .u8 (lit X j))) w) : Plan P n K (⟨i, true, ⟨some d, .load t x, ty, pos, aft, gd⟩, g⟩ :: l) O e w := by
 obtain ⟨hl, hc, hX⟩ := hX
 obtain ⟨offs, ms, js, os, ps, G, rw, h1, h2, h3, h4, h6⟩ := hX (by omega)
 obtain ⟨b, hb1, hb2⟩ := h2 (by omega)
 subst hb2 hb1
 have hx' : ev n e x = .pointer (some ⟨b, offs + (js + j), none⟩) := by rw [hx, ← Nat.add_assoc, ← h3]; rfl
 refine Plan.load1 hst ix hg hx' h1 (by omega) ht ?_
 have := h _ h1
 rw [h6 j hj] at this
 exact this
theorem Plan.storeO (hst : St B w0 L w) {t : TypeId} {x y : Operand} {len cap j : Nat} {a : Option Addr} {pb : Option Nat} {F : Nat → Byte} {X : List Byte} {Y : Byte} (k : Nat) (hO : Ow a pb len cap F X) (hg : wantedE n e g = true) (hx : ev n e x = .pointer (a.map fun z => ⟨z.block, z.off + j, none⟩)) (hy : ev n e y = VU .u8 Y)
   (hL : L[k]? = some ⟨pb, 0, cap, fun q => VU .u8 (F q), true⟩) (hj : j < len) (ht : szT P t 1 = true) (hw : O.all (fun p => waitsO ⟨none, .store t x y, ty, pos, aft, gd⟩ p.1) = true)
   (h : ∀ w' F', Ow a pb len cap F' (X.set j Y) → St B w0 (L.set k ⟨pb, 0, cap, fun q => VU .u8 (F' q), true⟩) w' → Plan P n K l [] e w') : Plan P n K (⟨i, false, ⟨none, .store t x y, ty, pos, aft, gd⟩, g⟩ :: l) O e w := by
 have hOc := hO.hc
 obtain ⟨b, rfl, rfl⟩ := hO.ho.pos (by omega)
 refine Plan.storeU (off := 0) hst k hg (by rw [hx]; rfl) hy hL (by omega) ht hw fun w' h' => h w' _ ⟨hO.ho, hOc, by rw [List.length_set]; exact hO.hl, fun q hq => ?_⟩ h'
 have h1 := hO.hF q hq
 have h2 := hO.hl
 unfold lit at h1 ⊢
 rw [upd_at]
 by_cases hqj : q = j
 · subst hqj; rw [if_pos rfl, List.getD_eq_getElem?_getD, List.getElem?_set_self (by omega)]; rfl
 · rw [if_neg hqj, ← h1, List.getD_eq_getElem?_getD, List.getD_eq_getElem?_getD, List.getElem?_set_ne (Ne.symm hqj)]
theorem Plan.appendO (hst : St B w0 L w) {t t' sz : TypeId} {x y : Operand} {len cap m cy iy : Nat} {a ay : Option Addr} {pb : Option Nat} {F : Nat → Byte} {X Y : List Byte} (k : Nat) (hO : Ow a pb len cap F X) (he : elD P t = some (1, 1, some (VU .u8 0#8))) (ht' : slB P t' sz = true) (hg : wantedE n e g = true)
   (hx : ev n e x = .slice a len cap) (hy : ev n e y = .slice ay m cy) (hL : L[k]? = some ⟨pb, 0, cap, fun q => VU .u8 (F q), true⟩) (hY : Bx L iy ay m cy Y) (hb : len + m ≤ 140737488355328)
   (hw : ∀ r, EffO aft O (L.set k r) O')
   (h : ∀ a' pb' cap' (F' : Nat → Byte) w', Ow a' pb' (X ++ Y).length cap' F' (X ++ Y) → St B w0 (L.set k ⟨pb', 0, cap', fun q => VU .u8 (F' q), true⟩) w' → Plan P n K l O' (updO e (some d) (.slice a' (X ++ Y).length cap')) w') :
   Plan P n K (⟨i, false, ⟨some d, .call ⟨.builtin .append, #[x, y], #[t, t']⟩, ty, pos, aft, gd⟩, g⟩ :: l) O e w :=
 Plan.appendL hst k he ht' hg hx hy hL hO.ho hO.hc hO.hl hO.hF (hY.bs' k hL) hY.hl hb hw fun a' pb' cap' F' w' h1 h2 h3 h4 => h a' pb' cap' F' w' ⟨h1, h2, rfl, h3⟩ h4
theorem St.nilR (h : St B w0 L w) : St B w0 (⟨none, 0, 0, fun q => VU .u8 ((fun _ => 0#8 : Nat → Byte) q), true⟩ :: L) w := h.ownNil
end step
end Go.LW
namespace Go.LW
set_option linter.unusedSimpArgs false
set_option linter.unusedVariables false
set_option linter.unusedSectionVars false
open Go Go.RowKit
section step
variable {P : Program} {n : Nat} {K : Pend → Env → World → Prop} {l : List It} {O O' : Pend} {e : Env} {w : World} {i ty : Nat} {d : Tmp} {pos : String} {aft : Array Edge} {gd g : Option (Nat × Bool)}
variable {B : Nat} {w0 : World} {L L' : List Rg}
theorem Plan.eqStrV {t yt : TypeId} {x y : Operand} {X Y : List Byte} {v : Bool} (hg : wantedE n e g = true) (hx : ev n e x = .string (strL X)) (hy : ev n e y = .string (strL Y)) (hv : decide (X = Y) = v)
   (h : Plan P n K l O (upd e d (.bool v)) w) : Plan P n K (⟨i, true, ⟨some d, .binOp .eql t x y yt, ty, pos, aft, gd⟩, g⟩ :: l) O e w := Plan.eqStr hg hx hy (by rw [hv]; exact h)
theorem Plan.slV {t : TypeId} {x : Operand} {ix len cap lo hi : Nat} {a : Option Addr} {X : List Byte} {low high : Option Operand} (hX : Bx L ix a len cap X) (ha : slB P t 1 = true) (hg : wantedE n e g = true) (hx : ev n e x = .slice a len cap)
   (hlo : match low with | some y => ∃ k, ev n e y = .int k (lo : Int) | none => lo = 0) (hhi : match high with | some y => ∃ k, ev n e y = .int k (hi : Int) | none => hi = len) (hb : lo ≤ hi ∧ hi ≤ len)
   (h : ∀ a' c', Bx L ix a' (seg X lo hi).length c' (seg X lo hi) → Plan P n K l O (upd e d (.slice a' (seg X lo hi).length c')) w) : Plan P n K (⟨i, true, ⟨some d, .slice t x low high none, ty, pos, aft, gd⟩, g⟩ :: l) O e w := by
 have h1 := hX.seg hb
 have h2 : (seg X lo hi).length = hi - lo := h1.hl
 refine Plan.slSl ha hg hx hlo hhi (by have := hX.le; omega) ?_
 rw [← h2] at h1 ⊢
 exact h _ _ h1
theorem Plan.slArrO {t : TypeId} {x : Operand} {b o len lo hi m c o' : Nat} {low high : Option Operand} (ha : arrB P t len 1 = true) (hg : wantedE n e g = true) (hx : ev n e x = .pointer (some ⟨b, o, none⟩))
   (hlo : match low with | some y => ∃ k, ev n e y = .int k (lo : Int) | none => lo = 0) (hhi : match high with | some y => ∃ k, ev n e y = .int k (hi : Int) | none => hi = len) (hb : lo ≤ hi ∧ hi ≤ len ∧ lo < len) (hm : hi - lo = m) (hc : len - lo = c) (ho : o + lo = o')
   (h : Plan P n K l O (upd e d (.slice (some ⟨b, o', none⟩) m c)) w) : Plan P n K (⟨i, true, ⟨some d, .slice t x low high none, ty, pos, aft, gd⟩, g⟩ :: l) O e w :=
 Plan.slArr ha hg hx hlo hhi hb (by rw [Nat.mul_one, hm, hc, ho]; exact h)
theorem Plan.toStrV (hst : St B w0 L w) {src dst el : TypeId} {x : Operand} {a : Option Addr} {ix len c : Nat} {X : List Byte} (hX : Bx L ix a len c X) (hs : P.underlying src = some (.slice el)) (he : P.underlying el = some (.int .u8)) (hd : P.underlying dst = some .string) (hg : wantedE n e g = true)
   (hx : ev n e x = .slice a len c) (h : ∀ r : Rg, (r.n = 0 ∨ L[ix]? = some r) → Plan P n K l ((i, r.at) :: O) (upd e d (.string (strL X))) w) :
   Plan P n K (⟨i, true, ⟨some d, .convert src dst x, ty, pos, aft, gd⟩, g⟩ :: l) O e w := by
 obtain ⟨hl, hc, h0⟩ := hX
 by_cases hn : 0 < len
 · obtain ⟨offs, ms, js, os, ps, G, rw, h1, h2, h3, h4, h6⟩ := h0 hn
   have hr := h _ (.inr h1)
   refine Plan.held _ hg (hst.mem h1) (fun w hw => run_v ?_) hr
   rw [hx]
   obtain ⟨b, hp, ha⟩ := h2 hn
   subst ha
   refine run_convert_bytes_arg w src el hs he b os len c (X.map fun b => (b.toNat : Int)) (by simpa using hl) (fun q hq => ?_) dst hd
   obtain ⟨b', hp', hc'⟩ := hw (js + q) (show js + q < ms by omega)
   simp only at hp'
   rw [hp] at hp'
   obtain rfl := Option.some.inj hp'
   rw [h3, Nat.add_assoc]
   rw [hc']
   show some (VU .u8 (G (js + q))) = _
   rw [← h6 q hq]
   congr 1
   unfold lit
   simp only [List.getD_eq_getElem?_getD, List.getElem?_map]
   rw [List.getElem?_eq_getElem (by omega)]
   simp
 · obtain rfl : len = 0 := by omega
   obtain rfl := List.length_eq_zero_iff.1 hl
   have hr := h ⟨none, 0, 0, fun _ => undef, true⟩ (.inl rfl)
   refine Plan.held _ hg (fun j hj => absurd hj (Nat.not_lt_zero j)) (fun w hw => run_v ?_) hr
   rw [hx, run_convert_bytes_string w src dst el _ 0 c hs he hd]
   cases a <;> simp [Conv.bytesToString, loadCells]
   all_goals rfl
def rowB (P : Program) (t : Nat) : Bool := match P.underlying t with
 | some (.struct fs) => fs.toList.all fun f => match P.info? f.type with | some i => decide (i.size < 1000000) | none => false
 | some (.array _ el) => (match P.info? el with | some i => i.size < 1000000 | none => false)
 | _ => false
theorem Plan.buildZ {t : TypeId} {zps : List (Nat × (Nat → Value))} (ht : rowB P t = true) (hz : zeroIs P t zps) (hg : wantedE n e g = true)
   (h : Plan P n K l O (upd e d (AG zps)) w) : Plan P n K (⟨i, true, ⟨some d, .build t #[], ty, pos, aft, gd⟩, g⟩ :: l) O e w := by
 cases hu : P.underlying t with
 | none => unfold rowB at ht; rw [hu] at ht; cases ht
 | some u =>
   unfold rowB at ht
   rw [hu] at ht
   cases u with
   | array len el =>
     cases hi : P.info? el with
     | none => simp only [hi] at ht; cases ht
     | some inf => exact Plan.buildArr (len := len) (sz := inf.size) (zps := zps) (ps := zps) (vs := []) (by unfold arrB; rw [hu]; simp [szT, hi]) hz hg rfl rfl h
   | struct fs =>
     refine Plan.buildStr (zps := zps) (ps := zps) (vs := []) (pl := fs.toList.map (fun f => (f.offset, match P.info? f.type with | some i => i.size | none => 1000000007))) (by unfold placesB; rw [hu]; exact beq_self_eq_true _) ?_ hz hg rfl rfl h
     simp only [List.all_eq_true] at ht
     simp only [List.all_eq_true, List.mem_map]
     rintro q ⟨f, hf, rfl⟩
     have h1 := ht f hf
     cases hi : P.info? f.type with
     | none => rw [hi] at h1; cases h1
     | some inf => rw [hi] at h1; simpa using h1
   | _ => cases ht
end step
end Go.LW
namespace Go.LW
set_option linter.unusedSimpArgs false
set_option linter.unusedVariables false
set_option linter.unusedSectionVars false
open Go Go.RowKit
section step
variable {P : Program} {n : Nat} {K : Pend → Env → World → Prop} {l : List It} {O O' : Pend} {e : Env} {w : World} {i ty : Nat} {d : Tmp} {pos : String} {aft : Array Edge} {gd g : Option (Nat × Bool)}
variable {B : Nat} {w0 : World} {L L' : List Rg}
theorem run_isAgg {t : TypeId} {m : Nat} (ht : aggT P t m = true) (w : World) : (isAgg t).run P w = .ok true w := by
 obtain ⟨dsc, hu, hr, _⟩ := aggT_spec ht
 unfold isAgg
 rw [Sem.run_bind, run_underlying hu w]
 cases dsc <;> first | rfl | cases hr
theorem run_isAggN {t : TypeId} (ht : scalarT P t = true) (w : World) : (isAgg t).run P w = .ok false w := by
 unfold scalarT at ht
 unfold isAgg
 cases hu : P.underlying t with
 | none => rw [hu] at ht; cases ht
 | some dd =>
   rw [Sem.run_bind, run_underlying hu w]
   rw [hu] at ht
   cases dd <;> first | rfl | cases ht
theorem aggT_sz {t : TypeId} {m : Nat} (ht : aggT P t m = true) : szT P t m = true := by
 unfold aggT at ht; unfold szT
 simp only [Bool.and_eq_true] at ht; exact ht.2
theorem extract_mid (A C D : List Value) : (A ++ C ++ D).toArray.extract A.length (A.length + C.length) = C.toArray := by
 apply Array.ext'
 rw [List.append_assoc]
 simp
theorem run_partA {t : TypeId} {m : Nat} (ht : aggT P t m = true) {cs A C D : List Value} (hc : cs = A ++ C ++ D) (hm : C.length = m) (w : World) : (part t cs.toArray A.length).run P w = .ok (.agg C.toArray) w := by
 subst hc
 unfold part
 rw [Sem.run_bind, run_isAgg ht w]
 simp only [Result.andThen, if_true]
 rw [Sem.run_bind, szT_spec (aggT_sz ht) w]
 simp only [Result.andThen, Sem.run_pure]
 rw [← hm, extract_mid]
theorem catL_app (A C : List (Nat × (Nat → Value))) : catL (A ++ C) = catL A ++ catL C := by unfold catL; rw [List.flatMap_append]
def Bss (L : List Rg) (ix : Nat) (a : Option Addr) (len cc : Nat) (X : List (List Byte)) : Prop :=
 X.length = len ∧ len ≤ cc ∧ (0 < len → ∃ (offs ms js b : Nat) (A : Nat → Option Addr) (N C : Nat → Nat) (rw : Bool), L[ix]? = some ⟨some b, offs, ms, fun q => .slice (A q) (N q) (C q), rw⟩ ∧ a = some ⟨b, offs + js, none⟩ ∧ js + len ≤ ms ∧ ∀ q, q < len → ∃ iy, Bx L iy (A (js + q)) (N (js + q)) (C (js + q)) (X.getD q []))
theorem Bss.hl {L : List Rg} {ix : Nat} {a : Option Addr} {len cc : Nat} {X : List (List Byte)} (h : Bss L ix a len cc X) : X.length = len := h.1
theorem Bss.nil {L : List Rg} (ix : Nat) {a : Option Addr} {cc : Nat} : Bss L ix a 0 cc [] := ⟨rfl, Nat.zero_le _, fun h => absurd h (Nat.lt_irrefl 0)⟩
theorem Bss.app {L : List Rg} {ix : Nat} {a : Option Addr} {len cc : Nat} {X : List (List Byte)} (h : Bss L ix a len cc X) (D : List Rg) : Bss (D ++ L) (ix + D.length) a len cc X := by
 obtain ⟨hl, hc, h⟩ := h
 refine ⟨hl, hc, fun hn => ?_⟩
 obtain ⟨offs, ms, js, b, A, N, C, rw, h1, h2, h3, h4⟩ := h hn
 refine ⟨offs, ms, js, b, A, N, C, rw, ?_, h2, h3, fun q hq => ?_⟩
 · rw [List.getElem?_append_right (by omega), Nat.add_sub_cancel]; exact h1
 · obtain ⟨iy, hy⟩ := h4 q hq; exact ⟨_, hy.app D⟩
theorem Bss.of {L : List Rg} (k : Nat) {b m : Nat} {A : Nat → Option Addr} {N C : Nat → Nat} {rw : Bool} {X : List (List Byte)} (h : L[k]? = some ⟨some b, 0, m, fun q => .slice (A q) (N q) (C q), rw⟩) (hl : X.length = m) (hx : ∀ q, q < m → ∃ iy, Bx L iy (A q) (N q) (C q) (X.getD q [])) : Bss L k (some ⟨b, 0, none⟩) m m X :=
 ⟨hl, Nat.le_refl _, fun _ => ⟨0, m, 0, b, A, N, C, rw, h, rfl, by omega, fun q hq => by rw [Nat.zero_add]; exact hx q hq⟩⟩
theorem Plan.idxBss {t : TypeId} {x y : Operand} {k : IntKind} {ix len cc j : Nat} {a : Option Addr} {X : List (List Byte)} (hX : Bss L ix a len cc X) (ha : slB P t 1 = true) (hg : wantedE n e g = true) (hx : ev n e x = .slice a len cc) (hy : ev n e y = .int k (j : Int)) (hj : j < len)
   (h : Plan P n K l O (upd e d (.pointer (a.map fun z => ⟨z.block, z.off + j, none⟩))) w) : Plan P n K (⟨i, true, ⟨some d, .indexAddr t x y, ty, pos, aft, gd⟩, g⟩ :: l) O e w := by
 obtain ⟨hl, hc, hX⟩ := hX
 obtain ⟨offs, ms, js, b, A, N, C, rw, h1, h2, h3⟩ := hX (by omega)
 subst h2
 exact Plan.idxSl1 ha hg hx hy hj h
theorem Plan.loadBss {D : List Rg} (hst : St B w0 (D ++ L) w) {t : TypeId} {x : Operand} {ix len cc j : Nat} {a : Option Addr} {X : List (List Byte)} (hX : Bss L ix a len cc X) (hg : wantedE n e g = true) (hx : ev n e x = .pointer (a.map fun z => ⟨z.block, z.off + j, none⟩)) (hj : j < len) (ht : scalarT P t = true)
   (h : ∀ r iy a' c', (D ++ L)[ix + D.length]? = some r → Bx L iy a' (X.getD j []).length c' (X.getD j []) → Plan P n K l ((i, r.at) :: O) (upd e d (.slice a' (X.getD j []).length c')) w) : Plan P n K (⟨i, true, ⟨some d, .load t x, ty, pos, aft, gd⟩, g⟩ :: l) O e w := by
 obtain ⟨hl, hc, hX⟩ := hX
 obtain ⟨offs, ms, js, b, A, N, C, rw, h1, h2, h3, h4⟩ := hX (by omega)
 subst h2
 obtain ⟨iy, hy⟩ := h4 j hj
 have hx' : ev n e x = .pointer (some ⟨b, offs + (js + j), none⟩) := by rw [hx, ← Nat.add_assoc]; rfl
 have h1' : (D ++ L)[ix + D.length]? = some ⟨some b, offs, ms, fun q => .slice (A q) (N q) (C q), rw⟩ := by rw [List.getElem?_append_right (by omega), Nat.add_sub_cancel]; exact h1
 refine Plan.load1 hst _ hg hx' h1' (by omega) ht ?_
 have hl2 := hy.hl
 have := h _ iy (A (js + j)) (C (js + j)) h1' (by rw [← hl2] at hy; exact hy)
 rw [hl2] at this
 exact this
theorem writeL_mid (Y : List Value) : ∀ (A Z C : List Value), Y.length = Z.length → writeL (A ++ Z ++ C) A.length Y = A ++ Y ++ C := by
 induction Y with
 | nil => intro A Z C h; obtain rfl := List.length_eq_zero_iff.1 h.symm; rfl
 | cons y Y ih =>
   intro A Z C h
   cases Z with
   | nil => simp at h
   | cons z Z =>
     have h1 : (A ++ z :: Z ++ C).set A.length y = (A ++ [y]) ++ Z ++ C := by simp
     show writeL ((A ++ z :: Z ++ C).set A.length y) (A.length + 1) Y = _
     rw [h1]
     have h2 := ih (A ++ [y]) Z C (by simpa using h)
     rw [List.length_append] at h2
     rw [show A.length + 1 = A.length + [y].length from rfl, h2]
     simp
abbrev PS := List (Nat × (Nat → Value))
inductive FillP (pl : List (Nat × Nat)) : PS → List (Nat × Value) → PS → Prop
 | nil {z : PS} : FillP pl z [] z
 | agg {i : Nat} {r : List (Nat × Value)} {ps : PS} (A Z C Y : PS) (h : pl[i]? = some ((A.map (·.1)).sum, (Z.map (·.1)).sum)) (hs : (Y.map (·.1)).sum = (Z.map (·.1)).sum) (t : FillP pl (A ++ Y ++ C) r ps) : FillP pl (A ++ Z ++ C) ((i, AG Y) :: r) ps
 | one {i : Nat} {r : List (Nat × Value)} {ps : PS} {v : Value} (A C : PS) (F : Nat → Value) (h : pl[i]? = some ((A.map (·.1)).sum, 1)) (hv : cellsL v = [v]) (t : FillP pl (A ++ [(1, fun _ => v)] ++ C) r ps) : FillP pl (A ++ [(1, F)] ++ C) ((i, v) :: r) ps
theorem fillStep {place : Nat → Option (Nat × Nat)} {A Z C Y : List Value} {i : Nat} {v : Value} {r : List (Nat × Value)} (h : place i = some (A.length, Z.length)) (hs : Y.length = Z.length) (hv : cellsL v = Y) : fillL place (A ++ Z ++ C) ((i, v) :: r) = fillL place (A ++ Y ++ C) r := by
 simp only [fillL, h, hv]
 have h1 : (Nat.beq Y.length Z.length && Nat.ble (A.length + Z.length) (A ++ Z ++ C).length) = true := by
   simp only [Bool.and_eq_true, Nat.beq_eq, Nat.ble_eq, List.length_append]; omega
 rw [h1, writeL_mid Y A Z C hs]; rfl
theorem FillP.fill {pl : List (Nat × Nat)} {z ps : PS} {vs : List (Nat × Value)} (h : FillP pl z vs ps) : fillL (fun i => pl[i]?) (catL z) vs = some (catL ps) := by
 induction h with
 | nil => rfl
 | agg A Z C Y h hs t ih =>
   rw [catL_app, catL_app] at ih ⊢
   rw [fillStep (Y := catL Y) (by rw [h, catL_length, catL_length]) (by rw [catL_length, catL_length, hs]) rfl]
   exact ih
 | @one i r ps v A C F h hv t ih =>
   rw [catL_app, catL_app] at ih ⊢
   rw [fillStep (A := catL A) (Z := catL [(1, F)]) (C := catL C) (Y := catL [(1, fun _ => v)]) (place := fun i => pl[i]?) (by simp only [h, catL_length]; rfl) rfl (by rw [hv]; rfl)]
   exact ih
theorem Plan.buildP {t : TypeId} {parts : Array (Nat × Operand)} {pl : List (Nat × Nat)} {zps ps : List (Nat × (Nat → Value))} {vs : List (Nat × Value)} (ha : placesB P t pl = true) (hpl : pl.all (fun q => q.2 < 1000000) = true) (hz : zeroIs P t zps) (hg : wantedE n e g = true)
   (hv : parts.toList.map (fun p => (p.1, ev n e p.2)) = vs) (hf' : FillP pl zps vs ps)
   (h : Plan P n K l O (upd e d (AG ps)) w) : Plan P n K (⟨i, true, ⟨some d, .build t parts, ty, pos, aft, gd⟩, g⟩ :: l) O e w := Plan.buildStr ha hpl hz hg hv hf'.fill h
theorem Bx.move {L L' : List Rg} {i j : Nat} {r : Rg} {a : Option Addr} {len cc : Nat} {X : List Byte} (h : Bx L i a len cc X) (hi : L[i]? = some r) (hj : L'[j]? = some r) : Bx L' j a len cc X := by
 obtain ⟨hl, hc, h⟩ := h
 refine ⟨hl, hc, fun hn => ?_⟩
 obtain ⟨offs, ms, js, os, ps, G, rw, h1, h2⟩ := h hn
 rw [hi] at h1
 exact ⟨offs, ms, js, os, ps, G, rw, hj.trans h1, h2⟩
theorem Plan.idxVS (hst : St B w0 L w) {t : TypeId} {x y : Operand} {k : IntKind} {ix len cc j : Nat} {a : Option Addr} {X : List Byte} (hX : Bx L ix a len cc X) (ha : slB P t 1 = true) (hg : wantedE n e g = true) (hx : ev n e x = .slice a len cc) (hy : ev n e y = .int k (j : Int)) (hj : j < len)
   (h : Plan P n K l O (upd e d (.pointer (a.map fun z => ⟨z.block, z.off + j, none⟩))) w) : Plan P n K (⟨i, true, ⟨some d, .indexAddr t x y, ty, pos, aft, gd⟩, g⟩ :: l) O e w := Plan.idxV hX ha hg hx hy hj h
end step
end Go.LW
namespace Go.LW
set_option linter.unusedSimpArgs false
set_option linter.unusedVariables false
set_option linter.unusedSectionVars false
open Go Go.RowKit
theorem has_u {k : IntKind} {s : Nat} (hk : UK k s) {n : Int} (h : k.has n) : n = ((BitVec.ofInt s n).toNat : Int) := by
 have h1 : 0 ≤ n ∧ n < (2 ^ s : Nat) := by
   cases hk <;> simp [IntKind.has, IntKind.min, IntKind.max, IntKind.signed, IntKind.bits] at h <;> omega
 rw [BitVec.toNat_ofInt, Int.emod_eq_of_lt h1.1 h1.2, Int.toNat_of_nonneg h1.1]
theorem cell_u {P : Program} {w : World} {r : Reach} {base : Nat} {t : TypeId} {v : Value} {k : IntKind} (hu : P.underlying t = some (.int k)) (h : Cell.okWide P w r base t v) : ∃ n, v = .int k n ∧ k.has n := by
 unfold Cell.okWide at h
 rw [hu] at h
 cases v <;> simp [Cell.ok, hu] at h
 obtain ⟨rfl, h⟩ := h
 exact ⟨_, rfl, h⟩
theorem IsRow.bx {B : Nat} {w0 w : World} {L : List Rg} {a : Option Addr} {len cap : Nat} {zs : List Int} (hz : IsRow .u8 w a len cap zs) (h : St B w0 L w) (hr : roL L) : ∃ (r : Rg) (X : List Byte) (ix : Nat), St B w0 (r :: L) w ∧ roL (r :: L) ∧ Bx (r :: L) ix a len cap X := by
 obtain ⟨r, h1, h2, h3⟩ := hz.bytes h hr
 obtain ⟨X, hl, h4⟩ := h3.list
 obtain ⟨ix, h5⟩ := h4.bx hl
 exact ⟨r, X, ix, h1, h2, h5⟩
end Go.LW
namespace Go.LW
set_option linter.unusedSimpArgs false
set_option linter.unusedVariables false
set_option linter.unusedSectionVars false
open Go Go.RowKit
section step
variable {P : Program} {n : Nat} {K : Pend → Env → World → Prop} {l : List It} {O O' : Pend} {e : Env} {w : World} {i ty : Nat} {d : Tmp} {pos : String} {aft : Array Edge} {gd g : Option (Nat × Bool)}
variable {B : Nat} {w0 : World} {L L' : List Rg}
end step
section step2
variable {P : Program} {n : Nat} {K : Pend → Env → World → Prop} {l : List It} {O O' : Pend} {e : Env} {w : World} {i i2 ty ty2 : Nat} {d d2 : Tmp} {pos pos2 : String} {aft aft2 : Array Edge} {gd gd2 g g2 : Option (Nat × Bool)}
variable {B : Nat} {w0 : World} {L L' : List Rg}
end step2
end Go.LW
namespace Go.LW
set_option linter.unusedSimpArgs false
set_option linter.unusedVariables false
set_option linter.unusedSectionVars false
open Go Go.RowKit
section step3
variable {P : Program} {n : Nat} {K : Pend → Env → World → Prop} {l : List It} {O O' : Pend} {e : Env} {w : World} {i i2 i3 ty ty2 ty3 : Nat} {d d2 d3 : Tmp} {pos pos2 pos3 : String} {aft aft2 aft3 : Array Edge} {gd gd2 gd3 g g2 g3 : Option (Nat × Bool)}
variable {B : Nat} {w0 : World} {L L' : List Rg}
end step3
end Go.LW
namespace Go.LW
set_option linter.unusedSimpArgs false
set_option linter.unusedVariables false
set_option linter.unusedSectionVars false
open Go Go.RowKit
structure FA where
 i : Nat
 d : Nat
 T : TypeId
 ps : List (Nat × (Nat → Value))
theorem tmod_bd (a : Int) {c : Int} (hc : 0 < c) : -c < a.tmod c ∧ a.tmod c < c := by
 rcases Int.le_total 0 a with h | h
 · rw [Int.tmod_eq_emod_of_nonneg h]
   have h1 := Int.emod_nonneg a (show c ≠ 0 by omega)
   have h2 := Int.emod_lt_of_pos a hc
   omega
 · have e : a.tmod c = -((-a).tmod c) := by rw [Int.neg_tmod, Int.neg_neg]
   rw [e, Int.tmod_eq_emod_of_nonneg (by omega)]
   have h1 := Int.emod_nonneg (-a) (show c ≠ 0 by omega)
   have h2 := Int.emod_lt_of_pos (-a) hc
   omega
def ov (ds : List Nat) (z e : Env) : Env := fun i => cond (ds.any (Nat.beq i)) (z i) (e i)
theorem ov_in {ds : List Nat} {z e : Env} {i : Nat} (h : i ∈ ds) : ov ds z e i = z i := by
 unfold ov
 rw [show ds.any (Nat.beq i) = true from List.any_eq_true.2 ⟨i, h, Nat.beq_refl i⟩]
 rfl
theorem ov_out {ds : List Nat} {z e : Env} {i : Nat} (h : ¬ i ∈ ds) : ov ds z e i = e i := by
 unfold ov
 rw [show ds.any (Nat.beq i) = false from by
   rw [List.any_eq_false]
   intro x hx hb
   rw [Nat.eq_of_beq_eq_true hb] at h
   exact h hx]
 rfl
theorem ov_self {ds : List Nat} {z e : Env} (h : ∀ i, ¬ i ∈ ds → z i = e i) : ov ds z e = z := by
 funext i
 by_cases hi : i ∈ ds
 · exact ov_in hi
 · rw [ov_out hi, h i hi]
theorem St.perm {B : Nat} {w0 w : World} {L L' : List Rg} (h : St B w0 L w) (hp : L.Perm L') : St B w0 L' w :=
 ⟨h.below, h.base, fun r hr => h.at_ r (hp.mem_iff.2 hr), fun r hr => h.free r (hp.mem_iff.2 hr), (hp.pairwise_iff (fun h => Rg.apart.symm h)).1 h.apart⟩
section
variable {P : Program} {n : Nat} {ops : Array Oper} {Q : Exit → Act → World → Prop} {B : Nat} {w0 : World}
def KE (G : Env → World → Prop) (B : Nat) (w0 : World) (F L : List Rg) : List FA → List Rg → Env → Prop
 | [], R, e => ∀ w, St B w0 (F ++ (R ++ L)) w → G e w
 | a :: A, R, e => ∀ b, KE G B w0 F L A (R ++ rngs b 0 a.ps) (upd e a.d (.pointer (some ⟨b, 0, none⟩)))
def PX (P : Program) (n : Nat) (ops : Array Oper) (B : Nat) (w0 : World) (L : List Rg) (ds : List Nat) (Z : List Rg → Pend → Env → Prop) : List (List (Nat × Bool)) → List Rg → Pend → Env → Prop
 | [], F, O, e => Z F O e
 | σ :: segs, F, O, e => ∀ C z w, St B w0 (F ++ (C ++ L)) w →
     Plan P n (fun O' e' w' => ∃ F', St B w0 (F' ++ (C ++ L)) w' ∧ PIn O' (F' ++ L) ∧ PX P n ops B w0 L ds Z segs F' O' e') (items ops σ) O (ov ds z e) w
theorem KE.all {G : Env → World → Prop} {F L : List Rg} (bs : Nat → Nat) : ∀ (A : List FA) (R : List Rg) (e : Env), KE G B w0 F L A R e →
   ∀ w, St B w0 (F ++ (R ++ A.flatMap (fun a => rngs (bs a.d) 0 a.ps) ++ L)) w → G (A.foldl (fun e a => upd e a.d (.pointer (some ⟨bs a.d, 0, none⟩))) e) w
 | [], R, e, h, w, hst => h w (by simpa using hst)
 | a :: A, R, e, h, w, hst => by
   refine KE.all bs A _ _ (h (bs a.d)) w ?_
   simpa [List.append_assoc] using hst
theorem foldl_env (bs : Nat → Nat) (i : Nat) : ∀ (A : List FA) (e : Env), (A.foldl (fun e a => upd e a.d (.pointer (some ⟨bs a.d, 0, none⟩))) e) i = if i ∈ A.map (·.d) then .pointer (some ⟨bs i, 0, none⟩) else e i
 | [], e => by simp
 | a :: A, e => by
   rw [List.foldl_cons, foldl_env bs i A, List.map_cons]
   by_cases h : i ∈ A.map (·.d)
   · rw [if_pos h, if_pos (List.mem_cons_of_mem _ h)]
   · rw [if_neg h, upd_at]
     by_cases h2 : i = a.d
     · subst h2; rw [if_pos rfl, if_pos List.mem_cons_self]
     · rw [if_neg h2, if_neg (by rw [List.mem_cons]; exact fun h3 => h3.elim h2 h)]
theorem PIn.mid {O : Pend} {F L : List Rg} (h : PIn O (F ++ L)) {w : World} {C : List Rg} (hst : St B w0 (F ++ (C ++ L)) w) : ∀ p ∈ O, p.2 w := by
 have hs : St B w0 (F ++ L) w := hst.sub (List.Sublist.append (List.Sublist.refl F) (List.sublist_append_right C L))
 intro p hp
 clear hst
 generalize F ++ L = M at h hs
 induction h with
 | nil => cases hp
 | cons i h t ih =>
   rcases List.mem_cons.1 hp with rfl | hp
   · exact hs.mem h
   · exact ih hp hs
 | tru t ih =>
   rcases List.mem_cons.1 hp with rfl | hp
   · trivial
   · exact ih hp hs
 | parts h t ih =>
   rcases List.mem_cons.1 hp with rfl | hp
   · exact h.cells hs
   · exact ih hp hs
theorem KE.mono {G G' : Env → World → Prop} {F L : List Rg} (h : ∀ e w, G e w → G' e w) : ∀ (A : List FA) (R : List Rg) (e : Env), KE G B w0 F L A R e → KE G' B w0 F L A R e
 | [], _, _, hk => fun w hst => h _ _ (hk w hst)
 | _ :: A, _, _, hk => fun b => KE.mono h A _ _ (hk b)
theorem PX.mono {L : List Rg} {ds : List Nat} {Z Z' : List Rg → Pend → Env → Prop} (h : ∀ F O e, Z F O e → Z' F O e) : ∀ (segs : List (List (Nat × Bool))) (F : List Rg) (O : Pend) (e : Env), PX P n ops B w0 L ds Z segs F O e → PX P n ops B w0 L ds Z' segs F O e
 | [], _, _, _, hk => h _ _ _ hk
 | _ :: segs, _, _, _, hk => fun C z w hst => Plan.mono (fun _ _ _ ⟨F', h1, h2, h3⟩ => ⟨F', h1, h2, PX.mono h segs _ _ _ h3⟩) _ _ _ _ (hk C z w hst)
theorem Plan.env {ds : List Nat} : ∀ (l : List It) {K : Pend → Env → World → Prop} (O : Pend) (e : Env) (w : World), (∀ it ∈ l, ∀ d, it.o.dst = some d → ¬ d ∈ ds) → Plan P n K l O e w →
   Plan P n (fun O' e' w' => K O' e' w' ∧ ∀ i ∈ ds, e' i = e i) l O e w
 | [], K, O, e, w, _, h => ⟨h, fun _ _ => rfl⟩
 | it :: l, K, O, e, w, hd, h => by
   have hl : ∀ it ∈ l, ∀ d, it.o.dst = some d → ¬ d ∈ ds := fun q hq => hd q (List.mem_cons_of_mem _ hq)
   have key : ∀ v, ∀ i ∈ ds, updO e it.o.dst v i = e i := fun v i hi => by
     unfold updO
     cases hx : it.o.dst with
     | none => rfl
     | some d =>
       refine upd_ne _ _ _ _ ?_
       rintro rfl
       exact hd it List.mem_cons_self _ hx hi
   have go : ∀ v O w, Plan P n K l O (updO e it.o.dst v) w → Plan P n (fun O' e' w' => K O' e' w' ∧ ∀ i ∈ ds, e' i = e i) l O (updO e it.o.dst v) w := fun v O w hp =>
     Plan.mono (fun O e' w hk => ⟨hk.1, fun i hi => by rw [hk.2 i hi, key v i hi]⟩) _ _ _ _ (Plan.env l O _ w hl hp)
   unfold Plan at h ⊢
   split
   · rename_i hw
     rw [if_pos hw] at h
     split
     · rename_i hst
       rw [if_pos hst] at h
       obtain ⟨v, ⟨h3, h4⟩ | ⟨S, h2, h3, h4⟩⟩ := h
       · exact ⟨v, .inl ⟨h3, go _ _ _ h4⟩⟩
       · exact ⟨v, .inr ⟨S, h2, h3, go _ _ _ h4⟩⟩
     · rename_i hst
       rw [if_neg hst] at h
       exact uponE_mono (fun v w' hk => hk.imp (fun ⟨a, b⟩ => ⟨a, go _ _ _ b⟩) (Or.imp (fun ⟨a, b⟩ => ⟨a, go _ _ _ b⟩) (fun ⟨a, b⟩ => ⟨a, go _ _ _ b⟩))) h
   · rename_i hw
     rw [if_neg hw] at h
     exact go _ _ _ h
def picks {α : Type} : List α → List (α × List α)
 | [] => []
 | a :: l => (a, l) :: (picks l).map fun p => (p.1, a :: p.2)
theorem picks_perm {α : Type} {a : α} {r : List α} : ∀ {l : List α}, (a, r) ∈ picks l → l.Perm (a :: r)
 | [], h => by cases h
 | x :: l, h => by
   rcases List.mem_cons.1 h with h | h
   · cases h; exact List.Perm.refl _
   · obtain ⟨⟨b, r'⟩, hb, he⟩ := List.mem_map.1 h
     cases he
     exact ((picks_perm hb).cons x).trans (List.Perm.swap _ _ _)
theorem picks_of {α : Type} {a : α} : ∀ {l : List α}, a ∈ l → ∃ r, (a, r) ∈ picks l
 | x :: l, h => by
   by_cases hx : a ∈ l
   · obtain ⟨r, hr⟩ := picks_of hx
     exact ⟨x :: r, List.mem_cons_of_mem _ (List.mem_map.2 ⟨_, hr, rfl⟩)⟩
   · rcases List.mem_cons.1 h with rfl | h
     · exact ⟨l, List.mem_cons_self⟩
     · exact absurd h hx
def okF (ops : Array Oper) (σ2 : List (Nat × Bool)) : Nat → List Nat → List (List (Nat × Bool)) → Array Bool → Bool
 | 0, _, _, _ => false
 | f + 1, A, segs, l =>
   match segs with
   | [] => match A with
     | [] => (match planP ops σ2 l with
       | some l' => Region.ready .any ops l' == []
       | none => false)
     | _ => !(Region.ready .any ops l).isEmpty && (Region.ready .any ops l).all (fun j => A.contains j) && (picks A).all (fun p => okF ops σ2 f p.2 [] (l.setIfInBounds p.1 true))
   | ((i, false) :: st) :: segs' => !(Region.ready .any ops l).isEmpty && (Region.ready .any ops l).all (fun j => (i :: A).contains j) && (picks A).all (fun p => okF ops σ2 f p.2 segs (l.setIfInBounds p.1 true)) &&
     (match planP ops st (l.setIfInBounds i true) with
       | some l' => okF ops σ2 f A segs' l'
       | none => false)
   | _ => false
def marks (l : Array Bool) (xs : List Nat) : Array Bool := xs.foldl (fun l i => l.setIfInBounds i true) l
theorem set_comm (l : Array Bool) (i j : Nat) : (l.setIfInBounds i true).setIfInBounds j true = (l.setIfInBounds j true).setIfInBounds i true := by
 by_cases h : i = j
 · subst h; rfl
 · exact Array.setIfInBounds_comm _ _ h
theorem marks_perm {xs ys : List Nat} (h : xs.Perm ys) : ∀ l, marks l xs = marks l ys := by
 induction h with
 | nil => intro l; rfl
 | cons x h ih => intro l; exact ih _
 | swap x y l0 => intro l; show marks ((l.setIfInBounds y true).setIfInBounds x true) l0 = marks ((l.setIfInBounds x true).setIfInBounds y true) l0; rw [set_comm]
 | trans h1 h2 ih1 ih2 => intro l; rw [ih1, ih2]
theorem marks_app (l : Array Bool) (xs ys : List Nat) : marks l (xs ++ ys) = marks (marks l xs) ys := by unfold marks; rw [List.foldl_append]
theorem planP_marks (ops : Array Oper) : ∀ (σ : List (Nat × Bool)) (l l' : Array Bool), planP ops σ l = some l' → l' = marks l (σ.map (·.1))
 | [], l, l', h => by simp only [planP, Option.some.injEq] at h; exact h.symm
 | (i, true) :: σ, l, l', h => by
   simp only [planP] at h
   split at h
   · exact planP_marks ops σ _ _ h
   · cases h
 | (i, false) :: σ, l, l', h => by
   simp only [planP] at h
   split at h
   · exact planP_marks ops σ _ _ h
   · cases h
def splits : List Nat → List (List Nat × List Nat)
 | [] => [([], [])]
 | a :: l => (splits l).map (fun p => (a :: p.1, p.2)) ++ (splits l).map (fun p => (p.1, a :: p.2))
theorem splits_of : ∀ {A D A' : List Nat}, (D ++ A').Perm A → ∃ p ∈ splits A, p.1.Perm D ∧ p.2.Perm A'
 | [], D, A', h => by
   have := h.eq_nil
   rw [List.append_eq_nil_iff] at this
   obtain ⟨rfl, rfl⟩ := this
   exact ⟨([], []), List.mem_cons_self, List.Perm.refl _, List.Perm.refl _⟩
 | a :: A, D, A', h => by
   have ha : a ∈ D ++ A' := h.mem_iff.2 List.mem_cons_self
   rcases List.mem_append.1 ha with ha | ha
   · obtain ⟨D1, hD⟩ : ∃ D1, D.Perm (a :: D1) := ⟨D.erase a, List.perm_cons_erase ha⟩
     have h2 : (D1 ++ A').Perm A := List.Perm.cons_inv (a := a) ((hD.symm.append_right A').trans h)
     obtain ⟨p, hp, h3, h4⟩ := splits_of h2
     exact ⟨(a :: p.1, p.2), List.mem_append_left _ (List.mem_map.2 ⟨p, hp, rfl⟩), (h3.cons a).trans hD.symm, h4⟩
   · obtain ⟨D1, hD⟩ : ∃ D1, A'.Perm (a :: D1) := ⟨A'.erase a, List.perm_cons_erase ha⟩
     have h2 : (D ++ D1).Perm A := List.Perm.cons_inv (a := a) (((List.perm_middle.symm).trans (hD.symm.append_left D)).trans h)
     obtain ⟨p, hp, h3, h4⟩ := splits_of h2
     exact ⟨(p.1, a :: p.2), List.mem_append_right _ (List.mem_map.2 ⟨p, hp, rfl⟩), h3, (h4.cons a).trans hD.symm⟩
def okS (ops : Array Oper) (σ2 : List (Nat × Bool)) (A : List Nat) : List (List (Nat × Bool)) → Array Bool → Bool
 | [], l => (splits A).all fun p => match p.2 with
   | [] => (match planP ops σ2 (marks l p.1) with
     | some l' => Region.ready .any ops l' == []
     | none => false)
   | _ => !(Region.ready .any ops (marks l p.1)).isEmpty && (Region.ready .any ops (marks l p.1)).all (fun j => p.2.contains j)
 | ((i, false) :: st) :: segs', l => ((splits A).all fun p => !(Region.ready .any ops (marks l p.1)).isEmpty && (Region.ready .any ops (marks l p.1)).all (fun j => (i :: p.2).contains j) && (planP ops st (marks (l.setIfInBounds i true) p.1)).isSome) &&
   okS ops σ2 A segs' (marks (l.setIfInBounds i true) (st.map (·.1)))
 | _, _ => false
theorem all_contains {A B l : List Nat} (h : A.Perm B) (ha : (l.all fun j => A.contains j) = true) : (l.all fun j => B.contains j) = true := by
 rw [List.all_eq_true] at ha ⊢
 intro j hj
 have := ha j hj
 simp only [List.contains_iff_mem] at this ⊢
 exact h.mem_iff.1 this
theorem marks_set (l : Array Bool) (D : List Nat) (i : Nat) : (marks l D).setIfInBounds i true = marks (l.setIfInBounds i true) D := by
 have h1 : (marks l D).setIfInBounds i true = marks l (D ++ [i]) := (marks_app l D [i]).symm
 rw [h1, marks_perm (List.perm_append_comm (l₁ := D) (l₂ := [i]))]; rfl
theorem okS_okF {ops : Array Oper} {σ2 : List (Nat × Bool)} {A : List Nat} : ∀ (segs : List (List (Nat × Bool))) (l : Array Bool), okS ops σ2 A segs l = true →
   ∀ (f : Nat) (D A' : List Nat), (D ++ A').Perm A → A'.length + segs.length < f → okF ops σ2 f A' segs (marks l D) = true
 | [], l, h => by
   intro f
   induction f with
   | zero => intro D A' _ hf; exact absurd hf (Nat.not_lt_zero _)
   | succ f ih =>
     intro D A' hp hf
     unfold okS at h
     have key := fun (p : List Nat × List Nat) (hp : p ∈ splits A) => List.all_eq_true.1 h p hp
     obtain ⟨p, hm, h1, h2⟩ := splits_of hp
     have hk := key p hm
     have e1 : marks l p.1 = marks l D := marks_perm h1 l
     cases A' with
     | nil =>
       have h3 : p.2 = [] := h2.eq_nil
       rw [h3, e1] at hk
       unfold okF
       exact hk
     | cons a A'' =>
       have h3 : p.2 ≠ [] := fun h0 => by rw [h0] at h2; exact absurd h2.symm.eq_nil (by simp)
       have hk2 : (!(Region.ready .any ops (marks l p.1)).isEmpty && (Region.ready .any ops (marks l p.1)).all (fun j => p.2.contains j)) = true := by
         revert hk
         split
         · rename_i h4; exact absurd h4 h3
         · exact id
       rw [e1, Bool.and_eq_true] at hk2
       unfold okF
       simp only [Bool.and_eq_true]
       refine ⟨⟨hk2.1, all_contains h2 hk2.2⟩, ?_⟩
       rw [List.all_eq_true]
       rintro ⟨b, r⟩ hb
       have hpr := picks_perm hb
       have h5 : (marks l D).setIfInBounds b true = marks l (D ++ [b]) := (marks_app l D [b]).symm
       show okF ops σ2 f r [] ((marks l D).setIfInBounds b true) = true
       rw [h5]
       refine ih (D ++ [b]) r ?_ ?_
       · rw [List.append_assoc]
         exact ((hpr.symm).append_left D).trans hp
       · have := hpr.length_eq
         simp only [List.length_cons, List.length_nil] at this hf ⊢
         omega
 | ((i, false) :: st) :: segs', l, h => by
   unfold okS at h
   rw [Bool.and_eq_true] at h
   have hnx := okS_okF segs' _ h.2
   have key := fun (p : List Nat × List Nat) (hp : p ∈ splits A) => List.all_eq_true.1 h.1 p hp
   intro f
   induction f with
   | zero => intro D A' _ hf; exact absurd hf (Nat.not_lt_zero _)
   | succ f ih =>
     intro D A' hp hf
     obtain ⟨p, hm, h1, h2⟩ := splits_of hp
     have hk := key p hm
     have e1 : marks l p.1 = marks l D := marks_perm h1 l
     have e2 : marks (l.setIfInBounds i true) p.1 = marks (l.setIfInBounds i true) D := marks_perm h1 _
     simp only [Bool.and_eq_true] at hk
     rw [e1, e2] at hk
     unfold okF
     simp only [Bool.and_eq_true]
     refine ⟨⟨⟨hk.1.1, all_contains (h2.cons i) hk.1.2⟩, ?_⟩, ?_⟩
     · rw [List.all_eq_true]
       rintro ⟨b, r⟩ hb
       have hpr := picks_perm hb
       have h5 : (marks l D).setIfInBounds b true = marks l (D ++ [b]) := (marks_app l D [b]).symm
       show okF ops σ2 f r _ ((marks l D).setIfInBounds b true) = true
       rw [h5]
       refine ih (D ++ [b]) r ?_ ?_
       · rw [List.append_assoc]
         exact ((hpr.symm).append_left D).trans hp
       · have := hpr.length_eq
         simp only [List.length_cons] at this hf ⊢
         omega
     · rw [marks_set]
       have h6 := hk.2
       split
       · rename_i l' h7
         have h8 := planP_marks ops _ _ _ h7
         rw [h8, ← marks_app, marks_perm (List.perm_append_comm (l₁ := D)), marks_app]
         exact hnx f D A' hp (by simp only [List.length_cons] at hf; omega)
       · rename_i h7
         rw [h7] at h6; cases h6
 | [] :: _, l, h => by simp [okS] at h
 | ((i, true) :: st) :: segs', l, h => by simp [okS] at h
def segLen (segs : List (List (Nat × Bool))) : Nat := (segs.map List.length).sum
def isFA (P : Program) (ops : Array Oper) (a : FA) : Prop := (∃ ty pos aft, ops[a.i]? = some ⟨some a.d, .alloc a.T, ty, pos, aft, none⟩) ∧ zeroIs P a.T a.ps
def segsOut (ops : Array Oper) (ds : List Nat) (segs : List (List (Nat × Bool))) : Bool := segs.all fun σ => σ.all fun p => match (ops.getD p.1 default).dst with | some d => !ds.contains d | none => true
theorem segsOut_spec {ds : List Nat} {σ : List (Nat × Bool)} (h : (σ.all fun p => match (ops.getD p.1 default).dst with | some d => !ds.contains d | none => true) = true) : ∀ it ∈ items ops σ, ∀ d, it.o.dst = some d → ¬ d ∈ ds := by
 intro it hit d hd
 obtain ⟨p, hp, rfl⟩ := List.mem_map.1 hit
 have := List.all_eq_true.1 h p hp
 simp only [] at hd
 rw [hd] at this
 simpa using this
theorem rest_nil {α : Type} {a : α} {r : List α} : ∀ {l : List α}, (a, r) ∈ picks l → l.length = r.length + 1 := fun h => by
 have := (picks_perm h).length_eq
 simpa using this
theorem map_picks {α β : Type} (f : α → β) {a : α} {r : List α} : ∀ {l : List α}, (a, r) ∈ picks l → (f a, r.map f) ∈ picks (l.map f)
 | x :: l, h => by
   rcases List.mem_cons.1 h with h | h
   · cases h; exact List.mem_cons_self
   · obtain ⟨⟨b, r'⟩, hb, he⟩ := List.mem_map.1 h
     cases he
     exact List.mem_cons_of_mem _ (List.mem_map.2 ⟨_, map_picks f hb, rfl⟩)
theorem fl_sound (hn : n ≤ 1000000) (hs : Region.noSelect ops = true) (hQ : ∀ c a w, ¬ Q (.panic c) a w) {L : List Rg} {σ2 : List (Nat × Bool)} {A : List FA} (hA : ∀ a ∈ A, isFA P ops a) (hnd : (A.map (·.d)).Nodup) :
   ∀ (f : Nat) (Done A' : List FA) (segs : List (List (Nat × Bool))) (l : Array Bool), okF ops σ2 f (A'.map (·.i)) segs l = true → segsOut ops (A.map (·.d)) segs = true → (Done ++ A').Perm A →
     ∀ (F C : List Rg) (O : Pend) (e ea : Env) (w : World) (bs : Nat → Nat), (∀ i, ¬ i ∈ A.map (·.d) → ea i = e i) → (∀ a ∈ Done, ea a.d = .pointer (some ⟨bs a.d, 0, none⟩)) → C.Perm (Done.flatMap fun a => rngs (bs a.d) 0 a.ps) →
       St B w0 (F ++ (C ++ L)) w → PIn O (F ++ L) →
       PX P n ops B w0 L (A.map (·.d)) (fun F O e => KE (fun e w => Plan P n (fun _ e w => Q .normal (act n e) w) (items ops σ2) O e w) B w0 F L A [] e) segs F O e →
       wpAnyO P ops Q O (A'.length + segLen segs + σ2.length) l (act n ea) w := by
 intro f
 induction f with
 | zero => intro Done A' segs l h; simp [okF] at h
 | succ f ih =>
   intro Done A' segs l hok hout hperm F C O e ea w bs hea hD hC hst hO hX
   have hOw : ∀ p ∈ O, p.2 w := hO.mid hst
   -- a float comes up
   have float : ∀ (a : FA) (r : List FA), (a, r) ∈ picks A' → okF ops σ2 f (r.map (·.i)) segs (l.setIfInBounds a.i true) = true →
       wpOp P ops Q a.i (fun a' w' => (∀ p ∈ O, waitsO (ops.getD a.i default) p.1 = false → p.2 w') ∧ wpAnyO P ops Q (O.filter fun p => !waitsO (ops.getD a.i default) p.1) (r.length + segLen segs + σ2.length) (l.setIfInBounds a.i true) a' w') (act n ea) w := by
     intro a r hr hok2
     have hp1 := picks_perm hr
     have haA : a ∈ A := hperm.mem_iff.1 (List.mem_append_right _ (hp1.mem_iff.2 List.mem_cons_self))
     obtain ⟨⟨ty, pos, aft, hop⟩, z, hz1, hz2⟩ := hA a haA
     unfold wpOp
     simp only [hop]
     rw [if_pos (show Region.wanted (⟨some a.d, .alloc a.T, ty, pos, aft, none⟩ : Oper) (yielded ops (act n ea).tmps) = true from rfl)]
     refine .inl ?_
     have hrun : (execOp (ev n ea) ⟨some a.d, .alloc a.T, ty, pos, aft, none⟩).run P w = .ok (.value (.pointer (some ⟨w.heap.size, 0, none⟩))) (w.alloc (.cells (catL a.ps).toArray a.T)) := run_v (by
       simp only [Instr.alloc, Sem.run_bind, run_zeroValue hz1, Result.andThen, newVar, newRow, newObj, hz2]
       rfl)
     have hst1 := hst.alloc a.ps a.T
     have hst2 : St B w0 (F ++ ((rngs w.heap.size 0 a.ps ++ C) ++ L)) (w.alloc (.cells (catL a.ps).toArray a.T)) := hst1.perm (by
       rw [List.append_assoc (rngs w.heap.size 0 a.ps) C L, ← List.append_assoc, ← List.append_assoc F]
       exact List.perm_append_comm.append_right _)
     refine upon_wp (fun v w' hk => hk) (K := fun v w' => (∀ p ∈ O, waitsO (ops.getD a.i default) p.1 = false → p.2 w') ∧ wpAnyO P ops Q (O.filter fun p => !waitsO (ops.getD a.i default) p.1) (r.length + segLen segs + σ2.length) (l.setIfInBounds a.i true) (act n (updO ea (some a.d) v)) w') ?_
     rw [hrun]
     refine ⟨fun p hp _ => hO.mid hst2 p hp, anyO_weaken _ O _ _ _ _ (fun p hp => .inl (List.mem_filter.1 hp).1) ?_⟩
     have hperm2 : ((Done ++ [a]) ++ r).Perm A := by
       refine List.Perm.trans ?_ hperm
       rw [List.append_assoc]
       exact (List.Perm.append_left Done hp1.symm)
     have hnd2 : ((Done ++ A').map (·.d)).Nodup := ((hperm.map (·.d)).nodup_iff).2 hnd
     have hne : ∀ q ∈ Done, q.d ≠ a.d := fun q hq he => by
       rw [List.map_append, List.nodup_append] at hnd2
       exact hnd2.2.2 q.d (List.mem_map_of_mem hq) a.d (List.mem_map_of_mem (hp1.mem_iff.2 List.mem_cons_self)) he
     refine ih (Done ++ [a]) r segs _ hok2 hout hperm2 F (rngs w.heap.size 0 a.ps ++ C) O e _ _ (upd bs a.d w.heap.size) (fun i hi => ?_) (fun q hq => ?_) ?_ hst2 hO hX
     · show upd ea a.d _ i = e i
       rw [upd_ne _ _ _ _ (fun hia => hi (by rw [hia]; exact List.mem_map_of_mem haA))]
       exact hea i hi
     · show upd ea a.d _ q.d = _
       rcases List.mem_append.1 hq with hq | hq
       · rw [upd_ne _ _ _ _ (hne q hq), upd_ne _ _ _ _ (hne q hq)]
         exact hD q hq
       · obtain rfl : q = a := by simpa using hq
         rw [upd_same, upd_same]
     · rw [List.flatMap_append]
       have e1 : (Done.flatMap fun q => rngs (upd bs a.d w.heap.size q.d) 0 q.ps) = (Done.flatMap fun q => rngs (bs q.d) 0 q.ps) := by
         have : ∀ (D : List FA), (∀ q ∈ D, q.d ≠ a.d) → (D.flatMap fun q => rngs (upd bs a.d w.heap.size q.d) 0 q.ps) = (D.flatMap fun q => rngs (bs q.d) 0 q.ps) := by
           intro D hD
           induction D with
           | nil => rfl
           | cons x D ihD =>
             rw [List.flatMap_cons, List.flatMap_cons, ihD (fun q hq => hD q (List.mem_cons_of_mem _ hq)), upd_ne _ _ _ _ (hD x List.mem_cons_self)]
         exact this Done hne
       rw [e1]
       simp only [List.flatMap_cons, List.flatMap_nil, List.append_nil, upd_same]
       exact (List.perm_append_comm).trans (hC.append_right _)
   unfold okF at hok
   cases segs with
   | nil =>
     simp only at hok
     cases A' with
     | nil =>
       simp only [List.map_nil] at hok
       split at hok
       · rename_i l'' hp
         rw [beq_iff_eq] at hok
         rw [show ([] : List FA).length + segLen [] + σ2.length = σ2.length + 0 by simp [segLen]]
         refine plan_pre hn hs hQ (f := 0) (fun O e w _ hk => ⟨hok, hk⟩) σ2 O l ea w hp hOw ?_
         rw [List.append_nil] at hperm
         have hX' : KE (fun e w => Plan P n (fun _ e w => Q .normal (act n e) w) (items ops σ2) O e w) B w0 F L A [] e := hX
         have h1 := KE.all bs A [] e hX' w (hst.perm (by
           rw [List.nil_append]
           refine List.Perm.append_left F (List.Perm.append_right L ?_)
           exact hC.trans (hperm.flatMap_right _)))
         have h2 : (A.foldl (fun e a => upd e a.d (.pointer (some ⟨bs a.d, 0, none⟩))) e) = ea := by
           funext i
           rw [foldl_env]
           by_cases hi : i ∈ A.map (·.d)
           · rw [if_pos hi]
             obtain ⟨a, ha, rfl⟩ := List.mem_map.1 hi
             exact (hD a (hperm.mem_iff.2 ha)).symm
           · rw [if_neg hi, hea i hi]
         rw [h2] at h1
         exact h1
       · cases hok
     | cons a0 A0 =>
       simp only [List.map_cons, Bool.and_eq_true, Bool.not_eq_true'] at hok
       obtain ⟨⟨hne, hall⟩, hpk⟩ := hok
       rw [show (a0 :: A0).length + segLen [] + σ2.length = (A0.length + segLen [] + σ2.length) + 1 by simp [segLen]; omega]
       refine ⟨fun h0 => (by rw [h0] at hne; cases hne), fun j hj => ?_⟩
       have h1 := List.all_eq_true.1 hall j hj
       have h2 : j ∈ (a0 :: A0).map (·.i) := by simpa using h1
       obtain ⟨a, ha, rfl⟩ := List.mem_map.1 h2
       obtain ⟨r, hr⟩ := picks_of ha
       have hlen : r.length = A0.length := by have := rest_nil hr; simpa using this.symm
       have hk := List.all_eq_true.1 hpk _ (map_picks (·.i) hr)
       have := float a r hr hk
       rw [hlen] at this
       exact this
   | cons σ segs' =>
     match σ, hok, hout, hX, float with
     | [], hok, _, _, _ => simp at hok
     | (i, true) :: st, hok, _, _, _ => simp at hok
     | (i, false) :: st, hok, hout, hX, float =>
       simp only [Bool.and_eq_true, Bool.not_eq_true'] at hok
       obtain ⟨⟨⟨hne, hall⟩, hpk⟩, hnx⟩ := hok
       have hlen : segLen (((i, false) :: st) :: segs') = st.length + 1 + segLen segs' := by simp [segLen]
       obtain ⟨m, hm⟩ : ∃ m, A'.length + segLen (((i, false) :: st) :: segs') + σ2.length = m + 1 := ⟨A'.length + st.length + segLen segs' + σ2.length, by rw [hlen]; omega⟩
       rw [hm]
       refine ⟨fun h0 => (by rw [h0] at hne; cases hne), fun j hj => ?_⟩
       have h1 := List.all_eq_true.1 hall j hj
       have h2 : j = i ∨ j ∈ A'.map (·.i) := by simpa using h1
       by_cases hji : j ∈ A'.map (·.i)
       · obtain ⟨a, ha, rfl⟩ := List.mem_map.1 hji
         obtain ⟨r, hr⟩ := picks_of ha
         have hl2 := rest_nil hr
         have hk := List.all_eq_true.1 hpk _ (map_picks (·.i) hr)
         have := float a r hr hk
         rw [show r.length + segLen (((i, false) :: st) :: segs') + σ2.length = m by omega] at this
         exact this
       · obtain rfl : j = i := h2.resolve_right hji
         split at hnx
         · rename_i l'' hp
           have hout1 : (((j, false) :: st).all fun p => match (ops.getD p.1 default).dst with | some d => !(A.map (·.d)).contains d | none => true) = true ∧ segsOut ops (A.map (·.d)) segs' = true := by
             unfold segsOut at hout
             rw [List.all_cons, Bool.and_eq_true] at hout
             exact hout
           have hplan := Plan.env (ds := A.map (·.d)) _ O _ w (segsOut_spec hout1.1) (hX C ea w hst)
           rw [ov_self hea] at hplan
           have hmm : m = st.length + (A'.length + segLen segs' + σ2.length) := by rw [hlen] at hm; omega
           rw [hmm]
           refine eff_step hn hj hOw (fun O' e' w' hO' h' => ?_) hplan
           refine plan_pre hn hs hQ (f := A'.length + segLen segs' + σ2.length) (fun O'' e'' w'' hO'' hk => ?_) st O' _ e' w' hp hO' h'
           obtain ⟨⟨F', hk2, hk1, hk3⟩, hk4⟩ := hk
           refine ih Done A' segs' l'' hnx hout1.2 hperm F' C O'' e'' e'' w'' bs (fun _ _ => rfl) (fun a ha => ?_) hC hk2 hk1 hk3
           rw [hk4 a.d (List.mem_map_of_mem (hperm.mem_iff.1 (List.mem_append_left _ ha)))]
           exact hD a ha
         · cases hnx
end
section
variable {P : Program} {n : Nat} {ops : Array Oper} {B : Nat} {w0 : World}
theorem PX.step {L : List Rg} {ds : List Nat} {Z : List Rg → Pend → Env → Prop} {σ : List (Nat × Bool)} {segs : List (List (Nat × Bool))} {F : List Rg} {O : Pend} {e : Env}
   (h : ∀ C z w, St B w0 (F ++ (C ++ L)) w → Plan P n (fun O' e' w' => ∃ F', St B w0 (F' ++ (C ++ L)) w' ∧ PIn O' (F' ++ L) ∧ PX P n ops B w0 L ds Z segs F' O' e') (items ops σ) O (ov ds z e) w) : PX P n ops B w0 L ds Z (σ :: segs) F O e := h
theorem PX.done {L : List Rg} {ds : List Nat} {Z : List Rg → Pend → Env → Prop} {F : List Rg} {O : Pend} {e : Env} (h : Z F O e) : PX P n ops B w0 L ds Z [] F O e := h
theorem KE.step {G : Env → World → Prop} {F L : List Rg} {a : FA} {A : List FA} {R : List Rg} {e : Env} (h : ∀ b, KE G B w0 F L A (R ++ rngs b 0 a.ps) (upd e a.d (.pointer (some ⟨b, 0, none⟩)))) : KE G B w0 F L (a :: A) R e := h
theorem KE.fin {G : Env → World → Prop} {F L : List Rg} {R : List Rg} {e : Env} (h : ∀ w, St B w0 (F ++ (R ++ L)) w → G e w) : KE G B w0 F L [] R e := h
theorem flget {L : List Rg} {i : Nat} {r : Rg} (h : L[i]? = some r) (C : List Rg) : (C ++ L)[i + C.length]? = some r := by
 rw [List.getElem?_append_right (by omega), Nat.add_sub_cancel]; exact h
theorem flun {L C : List Rg} {i : Nat} {r : Rg} (h : (C ++ L)[i + C.length]? = some r) : L[i]? = some r := by
 rw [List.getElem?_append_right (by omega), Nat.add_sub_cancel] at h; exact h
end
section regions
variable {P : Program} {n : Nat} {R : Exit → Env → World → Prop} {e : Env} {w : World} {B : Nat} {w0 : World}
def planFl (ops : Array Oper) (n : Nat) (A : List (Nat × Nat)) (σ0 : List (Nat × Bool)) (segs : List (List (Nat × Bool))) (σ2 : List (Nat × Bool)) : Bool :=
 Region.noSelect ops && Nat.ble n 1000000 && (σ0.length + (A.length + segLen segs + σ2.length) == ops.size) && segsOut ops (A.map (·.2)) segs && decide ((A.map (·.2)).Nodup) &&
 (match planP ops σ0 (Array.replicate ops.size false) with
   | some l => okS ops σ2 (A.map (·.1)) segs l
   | none => false)
def isAlloc (ops : Array Oper) (a : Nat × Nat × TypeId) : Bool := match ops[a.1]? with
 | some ⟨some d, .alloc t, _, _, _, none⟩ => d == a.2.1 && t == a.2.2
 | _ => false
inductive ZeroL (P : Program) : List (TypeId × List (Nat × (Nat → Value))) → Prop
 | nil : ZeroL P []
 | cons {T : TypeId} {ps : List (Nat × (Nat → Value))} {l : List (TypeId × List (Nat × (Nat → Value)))} (h : zeroIs P T ps) (t : ZeroL P l) : ZeroL P ((T, ps) :: l)
theorem ZeroL.mem {P : Program} {l : List (TypeId × List (Nat × (Nat → Value)))} (h : ZeroL P l) : ∀ q ∈ l, zeroIs P q.1 q.2 := by
 induction h with
 | nil => intro q hq; cases hq
 | cons h t ih =>
   intro q hq
   rcases List.mem_cons.1 hq with rfl | hq
   · exact h
   · exact ih q hq
theorem W.regionX {id : Nat} {ops : Array Oper} {L : List Rg} (hm : P.follows .mixedOrders = true) (A : List FA) (σ0 : List (Nat × Bool)) (segs : List (List (Nat × Bool))) (σ2 : List (Nat × Bool))
   (hB : planFl ops n (A.map fun a => (a.i, a.d)) σ0 segs σ2 = true) (hal : (A.map fun a => (a.i, a.d, a.T)).all (isAlloc ops) = true) (hz : ZeroL P (A.map fun a => (a.T, a.ps)))
   (h : Plan P n (fun O' e' w' => ∃ F', St B w0 (F' ++ L) w' ∧ PIn O' (F' ++ L) ∧ PX P n ops B w0 L (A.map (·.d)) (fun F O e => KE (fun e w => Plan P n (fun _ e w => R .normal e w) (items ops σ2) O e w) B w0 F L A [] e) segs F' O' e') (items ops σ0) [] e w.drew) :
   W P n (.region id ops true) R e w := by
 simp only [planFl, Bool.and_eq_true, beq_iff_eq, decide_eq_true_iff, List.length_map, List.map_map] at hB
 obtain ⟨⟨⟨⟨⟨hs, hn⟩, hl⟩, hout⟩, hnd⟩, hp⟩ := hB
 refine wp_region_any hm (anyO_any _ [] _ _ _ ?_)
 split at hp
 · rename_i l0 hp0
   have hfa : ∀ a ∈ A, isFA P ops a := fun a ha => by
     have h1 := List.all_eq_true.1 hal _ (List.mem_map.2 ⟨a, ha, rfl⟩)
     refine ⟨?_, hz.mem _ (List.mem_map.2 ⟨a, ha, rfl⟩)⟩
     unfold isAlloc at h1
     split at h1
     · rename_i d t ty pos aft he
       simp only [Bool.and_eq_true, beq_iff_eq] at h1
       obtain ⟨rfl, rfl⟩ := h1
       exact ⟨ty, pos, aft, he⟩
     · cases h1
   rw [← hl]
   rw [← hl] at hp0
   have hw : ({ w with drawn := w.drawn + 1 } : World) = w.drew := rfl
   rw [hw]
   refine plan_pre (by simpa using hn) hs (fun c a w hq => hq) (f := A.length + segLen segs + σ2.length) (fun O' e' w' hO' hk => ?_) σ0 [] _ e _ hp0 (fun p hp => by cases hp) h
   obtain ⟨F', hk2, hk1, hk3⟩ := hk
   refine fl_sound (L := L) (A := A) (by simpa using hn) hs (fun c a w hq => hq) hfa hnd (A.length + segs.length + 1) [] A segs l0 (okS_okF segs l0 hp (A.length + segs.length + 1) [] (A.map (·.i)) (List.Perm.refl _) (by rw [List.length_map]; omega)) hout (List.Perm.refl _) F' [] O' e' e' w' (fun _ => 0) (fun _ _ => rfl) (fun a ha => by cases ha) (List.Perm.refl _) hk2 hk1 ?_
   revert hk3
   generalize w.drew = w1 at *
   intro hk3
   exact PX.mono (fun F O e hz => KE.mono (fun e w hg => Plan.mono (fun O e w hr => ⟨e, rfl, hr⟩) _ _ _ _ hg) A _ _ hz) segs F' O' e' hk3
 · cases hp
end regions
end Go.LW
namespace Go.LW
set_option linter.unusedSimpArgs false
set_option linter.unusedVariables false
set_option linter.unusedSectionVars false
open Go Go.RowKit
structure EL where
 (α β : Type)
 sz : Nat
 E : β → α → List (Nat × (Nat → Value))
 val : β → α → Value
 ck : Value → Prop
 side : List Rg → β → α → Prop
 hlen : ∀ b x, (catL (E b x)).length = sz
 hval : ∀ b x, cellsL (val b x) = catL (E b x)
 one : ∀ b x v, v ∈ catL (E b x) → v.oneCell' = true
 ckE : ∀ b x v, v ∈ catL (E b x) → ck v
 mono : ∀ C L b x, side L b x → side (C ++ L) b x
def EL.cells (D : EL) (L : List Rg) (G : Nat → Value) (x : D.α) : Prop := ∃ b, D.side L b x ∧ ∀ k v, (catL (D.E b x))[k]? = some v → G k = v
theorem EL.cells.app {D : EL} {L : List Rg} {G : Nat → Value} {x : D.α} (h : D.cells L G x) (C : List Rg) : D.cells (C ++ L) G x := by
 obtain ⟨b, h1, h2⟩ := h
 exact ⟨b, D.mono C L b x h1, h2⟩
theorem EL.cells.congr {D : EL} {L : List Rg} {G G' : Nat → Value} {x : D.α} (h : D.cells L G x) (hG : ∀ k, k < D.sz → G k = G' k) : D.cells L G' x := by
 obtain ⟨b, h1, h2⟩ := h
 refine ⟨b, h1, fun k v hv => ?_⟩
 rw [← hG k (by rw [← D.hlen b x]; exact (List.getElem?_eq_some_iff.1 hv).1)]
 exact h2 k v hv
theorem EL.cells.one {D : EL} {L : List Rg} {G : Nat → Value} {x : D.α} (h : D.cells L G x) {k : Nat} (hk : k < D.sz) : (G k).oneCell' = true := by
 obtain ⟨b, h1, h2⟩ := h
 have hk' : k < (catL (D.E b x)).length := by rw [D.hlen]; exact hk
 rw [h2 k _ (List.getElem?_eq_getElem hk')]
 exact D.one b x _ (List.getElem_mem hk')
theorem EL.cells.ck {D : EL} {L : List Rg} {G : Nat → Value} {x : D.α} (h : D.cells L G x) {k : Nat} (hk : k < D.sz) : D.ck (G k) := by
 obtain ⟨b, h1, h2⟩ := h
 have hk' : k < (catL (D.E b x)).length := by rw [D.hlen]; exact hk
 rw [h2 k _ (List.getElem?_eq_getElem hk')]
 exact D.ckE b x _ (List.getElem_mem hk')
def LV (D : EL) (L : List Rg) (i : Nat) (a : Option Addr) (len cc : Nat) (X : List D.α) : Prop :=
 X.length = len ∧ len ≤ cc ∧ (0 < len → ∃ (offs ms js os : Nat) (ps : Option Nat) (G : Nat → Value) (rw : Bool), L[i]? = some ⟨ps, offs, ms, G, rw⟩ ∧ SlV a ps os len ∧ os = offs + js ∧ js + len * D.sz ≤ ms ∧ ∀ j x, X[j]? = some x → D.cells L (fun k => G (js + j * D.sz + k)) x)
structure LO (D : EL) (L : List Rg) (a : Option Addr) (pb : Option Nat) (len cap : Nat) (F : Nat → Value) (X : List D.α) : Prop where
 ho : OwnSl a pb cap
 hc : len ≤ cap
 hl : X.length = len
 hF : ∀ j x, X[j]? = some x → D.cells L (fun k => F (j * D.sz + k)) x
 hK : ∀ q, q < cap * D.sz → D.ck (F q)
theorem LV.hl {D : EL} {L : List Rg} {i : Nat} {a : Option Addr} {len cc : Nat} {X : List D.α} (h : LV D L i a len cc X) : X.length = len := h.1
theorem LV.le {D : EL} {L : List Rg} {i : Nat} {a : Option Addr} {len cc : Nat} {X : List D.α} (h : LV D L i a len cc X) : len ≤ cc := h.2.1
theorem LV.nil {D : EL} {L : List Rg} (i : Nat) {a : Option Addr} {cc : Nat} : LV D L i a 0 cc [] := ⟨rfl, Nat.zero_le _, fun h => absurd h (Nat.lt_irrefl 0)⟩
theorem LV.app {D : EL} {L : List Rg} {i : Nat} {a : Option Addr} {len cc : Nat} {X : List D.α} (h : LV D L i a len cc X) (C : List Rg) : LV D (C ++ L) (i + C.length) a len cc X := by
 obtain ⟨hl, hc, h⟩ := h
 refine ⟨hl, hc, fun hn => ?_⟩
 obtain ⟨offs, ms, js, os, ps, G, rw, h1, h2, h3, h4, h5⟩ := h hn
 exact ⟨offs, ms, js, os, ps, G, rw, by rw [List.getElem?_append_right (by omega), Nat.add_sub_cancel]; exact h1, h2, h3, h4, fun j x hx => (h5 j x hx).app C⟩
def EL.flat (D : EL) : Prop := ∀ L L' b x, D.side L b x → D.side L' b x
theorem LV.move {D : EL} (hf : D.flat) {L L' : List Rg} {i i' : Nat} {a : Option Addr} {len cc : Nat} {X : List D.α} (h : LV D L i a len cc X) {r : Rg} (h1 : L[i]? = some r) (h2 : L'[i']? = some r) : LV D L' i' a len cc X := by
 obtain ⟨hl, hc, h⟩ := h
 refine ⟨hl, hc, fun hn => ?_⟩
 obtain ⟨offs, ms, js, os, ps, G, rw, g1, g2, g3, g4, g5⟩ := h hn
 rw [h1] at g1
 obtain rfl := Option.some.inj g1
 exact ⟨offs, ms, js, os, ps, G, rw, h2, g2, g3, g4, fun j x hx => by
   obtain ⟨b, k1, k2⟩ := g5 j x hx
   exact ⟨b, hf _ _ _ _ k1, k2⟩⟩
theorem LO.lv {D : EL} {L0 L : List Rg} {a : Option Addr} {pb : Option Nat} {len cap : Nat} {F : Nat → Value} {X : List D.α} (h : LO D L0 a pb len cap F X) (hs : ∀ b x, D.side L0 b x → D.side L b x) (k : Nat) (hL : L[k]? = some ⟨pb, 0, cap * D.sz, F, true⟩) : LV D L k a len cap X := by
 refine ⟨h.hl, h.hc, fun _ => ⟨0, cap * D.sz, 0, 0, pb, F, true, hL, h.ho.sl h.hc, rfl, by rw [Nat.zero_add]; exact Nat.mul_le_mul_right _ h.hc, fun j x hx => ?_⟩⟩
 obtain ⟨b, h1, h2⟩ := h.hF j x hx
 exact ⟨b, hs b x h1, fun k v hv => by rw [Nat.zero_add]; exact h2 k v hv⟩
theorem LO.nil {D : EL} {L : List Rg} {F : Nat → Value} : LO D L none none 0 0 F [] := ⟨OwnSl.nil, Nat.le_refl _, rfl, fun j x hx => by simp at hx, fun q hq => absurd hq (by simp)⟩
theorem AGL_congr {ps qs : List (Nat × (Nat → Value))} (h : catL ps = catL qs) : AG ps = AG qs := by unfold AG; rw [h]
theorem getD_of {α : Type} {X : List α} {j : Nat} (hj : j < X.length) (dflt : α) : X[j]? = some (X.getD j dflt) := by
 rw [List.getD_eq_getElem?_getD, List.getElem?_eq_getElem hj]; rfl
section keep
variable {P : Program} {B : Nat} {w0 w : World} {L : List Rg}
end keep
section run
variable {P : Program} {B : Nat} {w0 w : World} {L : List Rg}
end run
section step
variable {P : Program} {n : Nat} {K : Pend → Env → World → Prop} {l : List It} {O O' : Pend} {e : Env} {w : World} {i ty : Nat} {d : Tmp} {pos : String} {aft : Array Edge} {gd g : Option (Nat × Bool)}
variable {B : Nat} {w0 : World} {L L' : List Rg} {D : EL}
theorem Plan.idxLV {t : TypeId} {x y : Operand} {k : IntKind} {ix len cc j sz : Nat} {a : Option Addr} {X : List D.α} (hX : LV D L ix a len cc X) (ha : slB P t sz = true) (hg : wantedE n e g = true) (hx : ev n e x = .slice a len cc) (hy : ev n e y = .int k (j : Int)) (hj : j < len)
   (h : Plan P n K l O (upd e d (.pointer (a.map fun z => ⟨z.block, z.off + j * sz, none⟩))) w) : Plan P n K (⟨i, true, ⟨some d, .indexAddr t x y, ty, pos, aft, gd⟩, g⟩ :: l) O e w := by
 obtain ⟨hl, hc, hX⟩ := hX
 obtain ⟨offs, ms, js, os, ps, G, rw, h1, h2, h3⟩ := hX (by omega)
 obtain ⟨b, hb1, hb2⟩ := h2 (by omega)
 subst hb2
 exact Plan.idxSl ha hg hx hy hj h
theorem cells_at {len j js ms s : Nat} (hj : j < len) (h4 : js + len * s ≤ ms) : js + j * s + s ≤ ms := by
 have h1 : (j + 1) * s ≤ len * s := Nat.mul_le_mul_right _ hj
 rw [Nat.succ_mul] at h1
 omega
theorem LO.set {a : Option Addr} {pb : Option Nat} {len cap j : Nat} {F f' : Nat → Value} {X : List D.α} {y : D.α} (hO : LO D L a pb len cap F X) (hj : j < len) (hy : D.cells L f' y) : LO D L a pb len cap (spl F (j * D.sz) D.sz f') (X.set j y) := by
 refine ⟨hO.ho, hO.hc, by rw [List.length_set]; exact hO.hl, fun q x hx => ?_, fun q hq => ?_⟩
 rotate_left
 · by_cases h : j * D.sz ≤ q ∧ q < j * D.sz + D.sz
   · rw [spl_in _ _ _ _ _ h]; exact hy.ck (by omega)
   · rw [spl_out _ _ _ _ _ h]; exact hO.hK q hq
 by_cases hq : q = j
 · subst hq
   rw [List.getElem?_set_self (by rw [hO.hl]; exact hj)] at hx
   obtain rfl := Option.some.inj hx
   refine hy.congr fun k hk => ?_
   rw [spl_in _ _ _ _ _ ⟨by omega, by omega⟩]
   congr 1; omega
 · rw [List.getElem?_set_ne (Ne.symm hq)] at hx
   refine (hO.hF q x hx).congr fun k hk => ?_
   rw [spl_out _ _ _ _ _ ?_]
   rintro ⟨h1, h2⟩
   rcases Nat.lt_or_gt_of_ne hq with h3 | h3
   · have : (q + 1) * D.sz ≤ j * D.sz := Nat.mul_le_mul_right _ h3
     rw [Nat.succ_mul] at this
     omega
   · have : (j + 1) * D.sz ≤ q * D.sz := Nat.mul_le_mul_right _ h3
     rw [Nat.succ_mul] at this
     omega
end step
end Go.LW
namespace Go.LW
set_option linter.unusedSimpArgs false
set_option linter.unusedVariables false
set_option linter.unusedSectionVars false
open Go Go.RowKit
def EqV (P : Program) (d : Nat) (t : TypeId) (v v' : Value) (b : Bool) : Prop := ∀ w, (Op.equalIn d t v v').run P w = .ok b w
def intT (P : Program) (t : TypeId) (k : IntKind) : Bool := match P.underlying t with | some (.int q) => q == k | _ => false
theorem intT_spec {P : Program} {t : TypeId} {k : IntKind} (h : intT P t k = true) : P.underlying t = some (.int k) := by
 unfold intT at h
 cases hu : P.underlying t with
 | none => rw [hu] at h; cases h
 | some q =>
   rw [hu] at h
   cases q <;> try (cases h; done)
   simp only [beq_iff_eq] at h
   subst h; rfl
section
variable {P : Program} {d : Nat} {t : TypeId}
theorem EqV.int {k : IntKind} {a b : Int} (h : intT P t k = true) : EqV P (d + 1) t (.int k a) (.int k b) (decide (a = b)) := fun w => by
 rw [run_equalIn_int w d t k k a b (intT_spec h)]
 congr 1
theorem EqV.bool {a b : Bool} (h : P.underlying t = some .bool) : EqV P (d + 1) t (.bool a) (.bool b) (a == b) := fun w => run_equalIn_bool' w d t a b h
theorem EqV.arr {s n : Nat} {kd : IntKind} {F G : Nat → BitVec s} (h : arrIB P t n kd = true) : EqV P (d + 1 + 1) t (AG [(n, fun q => VU kd (F q))]) (AG [(n, fun q => VU kd (G q))]) (eqB n F G) := fun w => by
 obtain ⟨el, i, hu, hi, hs, hk, _⟩ := arrIB_spec h
 unfold AG
 rw [run_equalIn_array w (d + 1) _ _ hu hi]
 have hc : P.cellsOf el = 1 := by simp [Program.cellsOf, hi, hs]
 rw [hc]
 refine run_eqItems d hk _ _ F G w _ fun j hj => ?_
 have hj := List.mem_range.1 hj
 simp [catL_one, hj]
inductive EqF (P : Program) (d : Nat) (ps qs : PS) : List (TypeId × Nat) → Bool → Prop
 | nil : EqF P d ps qs [] true
 | agg {ft off : Nat} {fs : List (TypeId × Nat)} {b r : Bool} (A Y C A' Y' C' : PS) (hp : ps = A ++ Y ++ C) (hq : qs = A' ++ Y' ++ C') (ho : (A.map (·.1)).sum = off) (ho' : (A'.map (·.1)).sum = off)
     (ha : aggT P ft (Y.map (·.1)).sum = true) (ha' : aggT P ft (Y'.map (·.1)).sum = true) (h : EqV P d ft (AG Y) (AG Y') b) (t : EqF P d ps qs fs r) : EqF P d ps qs ((ft, off) :: fs) (b && r)
 | one {ft off : Nat} {fs : List (TypeId × Nat)} {b r : Bool} {v v' : Value} (A C A' C' : PS) (F F' : Nat → Value) (hp : ps = A ++ [(1, F)] ++ C) (hq : qs = A' ++ [(1, F')] ++ C') (ho : (A.map (·.1)).sum = off) (ho' : (A'.map (·.1)).sum = off)
     (ha : scalarT P ft = true) (hv : F 0 = v) (hv' : F' 0 = v') (h : EqV P d ft v v' b) (t : EqF P d ps qs fs r) : EqF P d ps qs ((ft, off) :: fs) (b && r)
theorem run_partS {ft off : Nat} {A C : PS} {F : Nat → Value} {v : Value} (ha : scalarT P ft = true) (ho : (A.map (·.1)).sum = off) (hv : F 0 = v) (w : World) : (part ft (catL (A ++ [(1, F)] ++ C)).toArray off).run P w = .ok v w := by
 unfold part
 rw [Sem.run_bind, run_isAggN ha w]
 have : (catL (A ++ [(1, F)] ++ C)).toArray[off]? = some v := by
   rw [catL_app, catL_app, ← ho, ← catL_length]
   simp [catL_one, hv]
 simp only [Result.andThen, Bool.false_eq_true, if_false, this, Sem.run_pure]
theorem run_partA' {ft off : Nat} {A Y C : PS} (ha : aggT P ft (Y.map (·.1)).sum = true) (ho : (A.map (·.1)).sum = off) (w : World) : (part ft (catL (A ++ Y ++ C)).toArray off).run P w = .ok (AG Y) w := by
 rw [catL_app, catL_app, ← ho, ← catL_length]
 exact run_partA ha rfl (catL_length _) w
theorem EqF.run {ps qs : PS} : ∀ {l : List (TypeId × Nat)} {b : Bool}, EqF P d ps qs l b → ∀ (fs : List Field), fs.map (fun f => (f.type, f.offset)) = l → (∀ f ∈ fs, f.name ≠ "_") → ∀ w, (Op.eqFields d (catL ps).toArray (catL qs).toArray fs).run P w = .ok b w := by
 intro l b h
 induction h with
 | nil =>
   intro fs hl _ w
   obtain rfl : fs = [] := List.map_eq_nil_iff.1 hl
   simp [Op.eqFields]
 | @agg ft off l b r A Y C A' Y' C' hp hq ho ho' ha ha' h t ih =>
   intro fs hl hn w
   cases fs with
   | nil => cases hl
   | cons f fs =>
     simp only [List.map_cons, List.cons.injEq, Prod.mk.injEq] at hl
     obtain ⟨⟨rfl, rfl⟩, hl⟩ := hl
     simp only [Op.eqFields, if_pos (hn f List.mem_cons_self), Sem.run_bind]
     have e1 := run_partA' (P := P) (C := C) ha ho w
     have e2 := run_partA' (P := P) (C := C') ha' ho' w
     rw [← hp] at e1
     rw [← hq] at e2
     simp only [e1, e2, Result.andThen_ok, h w]
     cases b with
     | true =>
       simp only [Bool.not_true, Bool.false_eq_true, if_false, Bool.true_and]
       exact ih fs hl (fun g hg => hn g (List.mem_cons_of_mem _ hg)) w
     | false => simp
 | @one ft off l b r v v' A C A' C' F F' hp hq ho ho' ha hv hv' h t ih =>
   intro fs hl hn w
   cases fs with
   | nil => cases hl
   | cons f fs =>
     simp only [List.map_cons, List.cons.injEq, Prod.mk.injEq] at hl
     obtain ⟨⟨rfl, rfl⟩, hl⟩ := hl
     simp only [Op.eqFields, if_pos (hn f List.mem_cons_self), Sem.run_bind]
     have e1 := run_partS (P := P) (C := C) ha ho hv w
     have e2 := run_partS (P := P) (C := C') ha ho' hv' w
     rw [← hp] at e1
     rw [← hq] at e2
     simp only [e1, e2, Result.andThen_ok, h w]
     cases b with
     | true =>
       simp only [Bool.not_true, Bool.false_eq_true, if_false, Bool.true_and]
       exact ih fs hl (fun g hg => hn g (List.mem_cons_of_mem _ hg)) w
     | false => simp
def fieldsB (P : Program) (t : TypeId) (l : List (TypeId × Nat)) : Bool := match P.underlying t with
 | some (.struct fs) => fs.toList.map (fun f => (f.type, f.offset)) == l && fs.toList.all (fun f => f.name != "_") && !P.stoodInHeld t
 | _ => false
theorem EqV.struct {l : List (TypeId × Nat)} {ps qs : PS} {b : Bool} (hB : fieldsB P t l = true) (h : EqF P d ps qs l b) : EqV P (d + 1) t (AG ps) (AG qs) b := fun w => by
 unfold fieldsB at hB
 cases hu : P.underlying t with
 | none => rw [hu] at hB; cases hB
 | some u =>
   rw [hu] at hB
   cases u <;> try (cases hB; done)
   rename_i fs
   simp only [Bool.and_eq_true, beq_iff_eq, Bool.not_eq_true', List.all_eq_true, bne_iff_ne, ne_eq] at hB
   obtain ⟨⟨h1, h2⟩, h3⟩ := hB
   have hf : P.fieldsOf t = fs := by unfold Program.fieldsOf; rw [hu]
   unfold AG
   rw [run_equalIn_struct w d t _ _ (by rw [hu, hf]) h3, hf]
   exact h.run fs.toList h1 (fun f hf => h2 f hf) w
end
section step
variable {P : Program} {n : Nat} {K : Pend → Env → World → Prop} {l : List It} {O O' : Pend} {e : Env} {w : World} {i ty : Nat} {d : Tmp} {pos : String} {aft : Array Edge} {gd g : Option (Nat × Bool)}
theorem toNat_lt {x : Int} {m : Nat} (h0 : 0 ≤ x) (h : x < (m : Int)) : x.toNat < m := by omega
end step
def Ones : List (Nat × (Nat → Value)) → Prop
 | [] => True
 | p :: ps => (∀ q, (p.2 q).oneCell' = true) ∧ Ones ps
theorem Ones.mem : ∀ {ps : List (Nat × (Nat → Value))}, Ones ps → ∀ v ∈ catL ps, v.oneCell' = true
 | [], _, v, hv => by simp [catL] at hv
 | p :: ps, h, v, hv => by
   rw [catL_cons] at hv
   rcases List.mem_append.1 hv with hv | hv
   · obtain ⟨q, _, rfl⟩ := List.mem_map.1 hv
     exact h.1 q
   · exact Ones.mem h.2 v hv
section step
variable {P : Program} {n : Nat} {K : Pend → Env → World → Prop} {l : List It} {O O' : Pend} {e : Env} {w : World} {i ty : Nat} {d : Tmp} {pos : String} {aft : Array Edge} {gd g : Option (Nat × Bool)}
variable {B : Nat} {w0 : World} {L L' : List Rg} {D : EL}
theorem Plan.idxLVS (_ : St B w0 L w) {t : TypeId} {x y : Operand} {k : IntKind} {ix len cc j sz : Nat} {a : Option Addr} {X : List D.α} (hX : LV D L ix a len cc X) (ha : slB P t sz = true) (hg : wantedE n e g = true) (hx : ev n e x = .slice a len cc) (hy : ev n e y = .int k (j : Int)) (hj : j < len)
   (h : Plan P n K l O (upd e d (.pointer (a.map fun z => ⟨z.block, z.off + j * sz, none⟩))) w) : Plan P n K (⟨i, true, ⟨some d, .indexAddr t x y, ty, pos, aft, gd⟩, g⟩ :: l) O e w := Plan.idxLV hX ha hg hx hy hj h
end step
end Go.LW
namespace Go.LW
set_option linter.unusedSimpArgs false
set_option linter.unusedVariables false
set_option linter.unusedSectionVars false
open Go Go.RowKit
theorem Filt.nil {aft : Array Edge} : ([] : Pend).filter (fun p => !waitsA aft p.1) = [] := rfl
theorem Filt.drop {aft : Array Edge} {k : Nat} {S : World → Prop} {O O' : Pend} (h : waitsA aft k = true) (t : O.filter (fun p => !waitsA aft p.1) = O') : ((k, S) :: O : Pend).filter (fun p => !waitsA aft p.1) = O' := by
 rw [List.filter_cons, if_neg (by show ¬ (!waitsA aft k) = true; rw [h]; exact Bool.false_ne_true)]; exact t
theorem Filt.keep {aft : Array Edge} {k : Nat} {S : World → Prop} {O O' : Pend} (h : waitsA aft k = false) (t : O.filter (fun p => !waitsA aft p.1) = O') : ((k, S) :: O : Pend).filter (fun p => !waitsA aft p.1) = (k, S) :: O' := by
 rw [List.filter_cons, if_pos (by show (!waitsA aft k) = true; rw [h]; rfl), t]
section step
variable {P : Program} {n : Nat} {K : Pend → Env → World → Prop} {l : List It} {O O' : Pend} {e : Env} {w : World} {i ty : Nat} {d : Tmp} {pos : String} {aft : Array Edge} {gd g : Option (Nat × Bool)}
variable {B : Nat} {w0 : World} {L L' : List Rg}
end step
end Go.LW
namespace Go.LW
set_option linter.unusedSimpArgs false
set_option linter.unusedVariables false
set_option linter.unusedSectionVars false
open Go Go.RowKit
inductive CkL (P : Program) (w : World) (r : Reach) (base : Nat) : List TypeId → List Value → Prop
 | nil : CkL P w r base [] []
 | cons {u : TypeId} {v : Value} {ts : List TypeId} {cs : List Value} (h : Cell.okWide P w r base u v) (t : CkL P w r base ts cs) : CkL P w r base (u :: ts) (v :: cs)
theorem CkL.of {P : Program} {w : World} {r : Reach} {base : Nat} : ∀ (ts : List TypeId) (cs : List Value), cs.length = ts.length → (∀ (i : Nat) v, cs[i]? = some v → ∃ u, ts[i]? = some u ∧ Cell.okWide P w r base u v) → CkL P w r base ts cs
 | [], [], _, _ => .nil
 | [], v :: cs, hl, _ => by simp at hl
 | u :: ts, [], hl, _ => by simp at hl
 | u :: ts, v :: cs, hl, h => by
   obtain ⟨u', hu, hv⟩ := h 0 v rfl
   obtain rfl : u = u' := Option.some.inj hu
   exact .cons hv (CkL.of ts cs (by simpa using hl) fun i x hx => h (i + 1) x hx)
def AggP (v : Value) (ps : List (Nat × (Nat → Value))) (cs : List Value) : Prop := v = .agg (catL ps ++ cs).toArray
theorem CkL.many {P : Program} {w : World} {r : Reach} {base : Nat} {u : TypeId} {k : IntKind} {s : Nat} (hk : UK k s) (hku : P.underlying u = some (.int k)) : ∀ {n : Nat} {ts : List TypeId} {cs : List Value}, CkL P w r base (List.replicate n u ++ ts) cs →
   ∃ (F : Nat → BitVec s) (cs' : List Value), cs = (List.range n).map (fun q => VU k (F q)) ++ cs' ∧ CkL P w r base ts cs'
 | 0, ts, cs, h => ⟨fun _ => 0#s, cs, rfl, h⟩
 | n + 1, ts, cs, h => by
   rw [List.replicate_succ, List.cons_append] at h
   cases h with
   | cons h1 t =>
     obtain ⟨x, rfl, hx⟩ := cell_u hku h1
     obtain ⟨F, cs', rfl, h2⟩ := CkL.many hk hku t
     refine ⟨fun q => match q with | 0 => BitVec.ofInt s x | q + 1 => F q, cs', ?_, h2⟩
     rw [List.range_succ_eq_map, List.map_cons, List.map_map, List.cons_append]
     exact congrArg (· :: _) (congrArg (Value.int k) (has_u hk hx))
theorem AggP.part {P : Program} {w : World} {r : Reach} {base : Nat} {v : Value} {ps : List (Nat × (Nat → Value))} {cs : List Value} {u : TypeId} {k : IntKind} {s n : Nat} {ts : List TypeId} (hk : UK k s) (hku : P.underlying u = some (.int k)) (hv : AggP v ps cs) (h : CkL P w r base (List.replicate n u ++ ts) cs) :
   ∃ (F : Nat → BitVec s) (cs' : List Value), AggP v (ps ++ [(n, fun q => VU k (F q))]) cs' ∧ CkL P w r base ts cs' := by
 obtain ⟨F, cs', rfl, h2⟩ := CkL.many hk hku h
 refine ⟨F, cs', ?_, h2⟩
 unfold AggP at hv ⊢
 rw [hv]
 unfold catL
 simp [List.flatMap_append]
theorem AggP.int {P : Program} {w : World} {r : Reach} {base : Nat} {v : Value} {ps : List (Nat × (Nat → Value))} {cs : List Value} {u : TypeId} {k : IntKind} {ts : List TypeId} (hku : P.underlying u = some (.int k)) (hv : AggP v ps cs) (h : CkL P w r base (u :: ts) cs) :
   ∃ (x : Int) (cs' : List Value), k.has x ∧ AggP v (ps ++ [(1, fun _ => .int k x)]) cs' ∧ CkL P w r base ts cs' := by
 cases h with
 | cons h1 t =>
   obtain ⟨x, rfl, hx⟩ := cell_u hku h1
   refine ⟨x, _, hx, ?_, t⟩
   unfold AggP at hv ⊢
   rw [hv]
   unfold catL
   simp [List.flatMap_append, List.range_succ]
theorem AggP.bool {P : Program} {w : World} {r : Reach} {base : Nat} {v : Value} {ps : List (Nat × (Nat → Value))} {cs : List Value} {u : TypeId} {ts : List TypeId} (hku : P.underlying u = some .bool) (hv : AggP v ps cs) (h : CkL P w r base (u :: ts) cs) :
   ∃ (x : Bool) (cs' : List Value), AggP v (ps ++ [(1, fun _ => .bool x)]) cs' ∧ CkL P w r base ts cs' := by
 cases h with
 | cons h1 t =>
   rename_i v' cs'
   have : ∃ x, v' = .bool x := by
     unfold Cell.okWide at h1
     rw [hku] at h1
     cases v' <;> simp [Cell.ok, hku] at h1
     exact ⟨_, rfl⟩
   obtain ⟨x, rfl⟩ := this
   refine ⟨x, _, ?_, t⟩
   unfold AggP at hv ⊢
   rw [hv]
   unfold catL
   simp [List.flatMap_append, List.range_succ]
theorem AggP.fin {P : Program} {w : World} {r : Reach} {base : Nat} {v : Value} {ps : List (Nat × (Nat → Value))} {cs : List Value} (hv : AggP v ps cs) (h : CkL P w r base [] cs) : v = AG ps := by
 cases h
 unfold AggP at hv
 rw [hv, List.append_nil]; rfl
theorem PIn.or {O : Pend} {L : List Rg} {k : Nat} {r : Rg} (i : Nat) (h : r.n = 0 ∨ L[i]? = some r) (t : PIn O L) : PIn ((k, r.at) :: O) L := by
 rcases h with h | h
 · have e : r.at = fun _ => True := by
     funext w
     exact propext ⟨fun _ => trivial, fun _ j hj => absurd hj (by omega)⟩
   rw [e]
   exact .tru t
 · exact .cons i h t
theorem or_un {L : List Rg} {i : Nat} {r : Rg} (C : List Rg) (h : r.n = 0 ∨ (C ++ L)[i + C.length]? = some r) : r.n = 0 ∨ L[i]? = some r := h.imp_right fun h => flun h
section step
variable {P : Program} {n : Nat} {K : Pend → Env → World → Prop} {l : List It} {O O' : Pend} {e : Env} {w : World} {i ty : Nat} {d : Tmp} {pos : String} {aft : Array Edge} {gd g : Option (Nat × Bool)}
variable {B : Nat} {w0 : World} {L L' : List Rg} {D : EL}
theorem Plan.loadLVd (C : List Rg) (hst : St B w0 (C ++ L) w) {t : TypeId} {x : Operand} {ix len cc j sz : Nat} {a : Option Addr} {X : List D.α} (dflt : D.α) (hX : LV D L ix a len cc X) (hg : wantedE n e g = true) (hx : ev n e x = .pointer (a.map fun z => ⟨z.block, z.off + j * sz, none⟩)) (hj : j < len) (hsz : D.sz = sz) (ht : aggT P t sz = true)
   (h : ∀ b r, D.side L b (X.getD j dflt) → (C ++ L)[ix + C.length]? = some r → Plan P n K l ((i, r.at) :: O) (upd e d (AG (D.E b (X.getD j dflt)))) w) : Plan P n K (⟨i, true, ⟨some d, .load t x, ty, pos, aft, gd⟩, g⟩ :: l) O e w := by
 subst hsz
 obtain ⟨hl, hc, hX⟩ := hX
 obtain ⟨offs, ms, js, os, ps, G, rw, h1, h2, h3, h4, h5⟩ := hX (by omega)
 obtain ⟨b, hb1, hb2⟩ := h2 (by omega)
 subst hb2 hb1
 obtain ⟨bb, s1, s2⟩ := h5 j _ (getD_of (by omega) dflt)
 have h1' : (C ++ L)[ix + C.length]? = some ⟨some b, offs, ms, G, rw⟩ := by rw [List.getElem?_append_right (by omega), Nat.add_sub_cancel]; exact h1
 have hx' : ev n e x = .pointer (some ⟨b, offs + (js + j * D.sz), none⟩) := by rw [hx, ← Nat.add_assoc, ← h3]; rfl
 refine Plan.loadSub hst (ix + C.length) (js + j * D.sz) hg hx' h1' rfl (cells_at hj h4) ht ?_
 have h7 := h bb _ s1 h1'
 have e1 : AG [(D.sz, fun q => G (js + j * D.sz + q))] = AG (D.E bb (X.getD j dflt)) := by
   refine AGL_congr ?_
   rw [catL_one]
   have hlen := D.hlen bb (X.getD j dflt)
   apply List.ext_getElem?
   intro q
   by_cases hq : q < D.sz
   · have hq2 : q < (catL (D.E bb (X.getD j dflt))).length := by rw [hlen]; exact hq
     rw [List.getElem?_eq_getElem hq2, List.getElem?_map, List.getElem?_range hq]
     exact congrArg some (s2 q _ (List.getElem?_eq_getElem hq2))
   · rw [List.getElem?_eq_none (by simpa using hq), List.getElem?_eq_none (by omega)]
 rw [e1]
 exact h7
end step
end Go.LW
namespace Go.LW
set_option linter.unusedSimpArgs false
set_option linter.unusedVariables false
set_option linter.unusedSectionVars false
open Go Go.RowKit
inductive Leaf (P : Program) (w : World) (M : Nat) : TypeId → Value → Prop
 | int {u : TypeId} {k : IntKind} {n : Int} (hu : P.underlying u = some (.int k)) (h : (Lit.int k n).wf = true) : Leaf P w M u (.int k n)
 | bool {u : TypeId} {b : Bool} (hu : P.underlying u = some .bool) : Leaf P w M u (.bool b)
 | bytes {u e : TypeId} {a : Option Addr} {len cap : Nat} {zs : List Int} (hu : P.underlying u = some (.slice e)) (he : P.underlying e = some (.int .u8)) (h : IsRow .u8 w a len cap zs) (hb : cap ≤ M) : Leaf P w M u (.slice a len cap)
inductive LfL (P : Program) (w : World) (M : Nat) : List TypeId → List Value → Prop
 | nil : LfL P w M [] []
 | cons {u : TypeId} {v : Value} {ts : List TypeId} {cs : List Value} (h : Leaf P w M u v) (t : LfL P w M ts cs) : LfL P w M (u :: ts) (v :: cs)
theorem LfL.append {P : Program} {w : World} {M : Nat} {ts ts' : List TypeId} {cs cs' : List Value} (h : LfL P w M ts cs) (h' : LfL P w M ts' cs') : LfL P w M (ts ++ ts') (cs ++ cs') := by
 induction h with
 | nil => exact h'
 | cons h _ ih => exact .cons h ih
theorem LfL.length {P : Program} {w : World} {M : Nat} {ts : List TypeId} {cs : List Value} (h : LfL P w M ts cs) : cs.length = ts.length := by
 induction h with
 | nil => rfl
 | cons _ _ ih => rw [List.length_cons, List.length_cons, ih]
def fieldsL (P : Program) (lf : TypeId → Option (List TypeId)) : List Field → Nat → Option (List TypeId)
 | [], _ => some []
 | f :: fs, o => if f.offset = o then
     match lf f.type with
     | some l => if P.cellsOf f.type = l.length then (fieldsL P lf fs (o + l.length)).map (l ++ ·) else none
     | none => none
   else none
def leafs (P : Program) : Nat → TypeId → Option (List TypeId)
 | 0, _ => none
 | n + 1, t => match P.underlying t with
   | some (.int _) => some [t]
   | some .bool => some [t]
   | some (.slice e) => match P.underlying e with
     | some (.int .u8) => if P.cellsOf e = 1 ∧ P.bytesOf e = 1 then some [t] else none
     | _ => none
   | some (.struct fs) => match fieldsL P (leafs P n) fs.toList 0 with
     | some l => if P.cellsOf t = l.length then some l else none
     | none => none
   | some (.array m e) => match leafs P n e with
     | some l => if P.cellsOf e = l.length ∧ P.cellsOf t = m * l.length then some (List.replicate m l).flatten else none
     | none => none
   | _ => none
structure KClosed {H : Type} (P : Program) (M : Nat) (K : TypeId → DataW H → Prop) : Prop where
 bytes : ∀ t e (xs ys : List (DataW H)), P.underlying t = some (.slice e) → P.bytesOf e = 1 → K t (.slice xs ys) → xs.length + ys.length ≤ M
 part : ∀ (t : TypeId) (fs : Array Field) (xs : List (DataW H)) (j : Nat) (f : Field) (x : DataW H), P.underlying t = some (.struct fs) → K t (.agg xs) → fs[j]? = some f → xs[j]? = some x → K f.type x
 arr : ∀ (t : TypeId) (k : Nat) (e : TypeId) (xs : List (DataW H)) (j : Nat) (x : DataW H), P.underlying t = some (.array k e) → K t (.agg xs) → xs[j]? = some x → K e x
 elem : ∀ (t e : TypeId) (xs ys : List (DataW H)) (j : Nat) (x : DataW H), P.underlying t = some (.slice e) → K t (.slice xs ys) → xs[j]? = some x → K e x
 spare : ∀ (t e : TypeId) (xs ys : List (DataW H)) (j : Nat) (x : DataW H), P.underlying t = some (.slice e) → K t (.slice xs ys) → ys[j]? = some x → K e x
section
variable {H : Type} {enc : TypeId × Value → H} {P : Program} {w : World} {M : Nat} {held : Bool} {K : TypeId → DataW H → Prop}
theorem fieldsL_ok {lf : TypeId → Option (List TypeId)} {m : Nat} {cs : List Value} (hlf : ∀ t ts, lf t = some ts → ∀ cs x, DataW.trod enc P w 0 (fun _ => true) held m t cs = some x → K t x.1 → LfL P w M ts cs) :
   ∀ (fs : List Field) (o : Nat) (l : List TypeId), fieldsL P lf fs o = some l → (∀ f ∈ fs, ∃ x, DataW.trod enc P w 0 (fun _ => true) held m f.type ((cs.drop f.offset).take (P.cellsOf f.type)) = some x ∧ K f.type x.1) → LfL P w M l ((cs.drop o).take l.length)
 | [], o, l, h, _ => by
   obtain rfl : [] = l := by simpa [fieldsL] using h
   exact .nil
 | f :: fs, o, l, h, hx => by
   unfold fieldsL at h
   split at h
   · rename_i ho
     split at h
     · rename_i l1 hl1
       split at h
       · rename_i hc
         obtain ⟨l2, h2, rfl⟩ := Option.map_eq_some_iff.1 h
         obtain ⟨x, hx1, hx2⟩ := hx f List.mem_cons_self
         have a1 := hlf _ _ hl1 _ _ hx1 hx2
         rw [ho, hc] at a1
         have a2 := fieldsL_ok hlf fs (o + l1.length) l2 h2 (fun g hg => hx g (List.mem_cons_of_mem _ hg))
         rw [List.length_append, List.take_add, List.drop_drop]
         exact a1.append a2
       · cases h
     · cases h
   · cases h
theorem leafs_ok (hK : KClosed P M K) : ∀ (n : Nat) (t : TypeId) (ts : List TypeId), leafs P n t = some ts → ∀ (m : Nat) (cs : List Value) (x : DataW H × List MemPlace), DataW.trod enc P w 0 (fun _ => true) held m t cs = some x → K t x.1 → LfL P w M ts cs
 | 0, t, ts, h, _, _, _, _, _ => by simp [leafs] at h
 | n + 1, t, ts, h, m, cs, x, hx, hwt => by
   unfold leafs at h
   split at h
   · rename_i k hu
     obtain rfl : [t] = ts := Option.some.inj h
     obtain ⟨z, rfl, _, hw⟩ := DataW.trod_int hu hx
     exact .cons (.int hu hw) .nil
   · rename_i hu
     obtain rfl : [t] = ts := Option.some.inj h
     obtain ⟨b, rfl, _⟩ := DataW.trod_bool hu hx
     exact .cons (.bool hu) .nil
   · rename_i e hu
     split at h
     · rename_i he
       split at h
       · rename_i hc
         obtain rfl : [t] = ts := Option.some.inj h
         rcases Go.ChangeShapes.open_ints hu he hc.1 hx with ⟨rfl, _⟩ | ⟨a, l, c, zs, rfl, _, hl, hm, hz, hxx, hcell, hwz⟩
         · exact .cons (.bytes (zs := []) hu he (.inl ⟨rfl, rfl, rfl, rfl⟩) (Nat.zero_le _)) .nil
         · have hz' : zs.length = c := by simpa using hz
           rw [hxx] at hwt
           have hr := hK.bytes t e _ _ hu hc.2 hwt
           have hln : ∀ zs : List Int, (Go.ChangeShapes.lits (H := H) .u8 zs).length = zs.length := fun zs => by simp [Go.ChangeShapes.lits]
           rw [hln, hln, List.length_take, List.length_drop] at hr
           exact .cons (.bytes hu he (.inr ⟨_, rfl, hl, hm, hz', hcell, hwz⟩) (by omega)) .nil
       · cases h
     · cases h
   · rename_i fs hu
     split at h
     · rename_i l hl
       split at h
       · rename_i hc
         obtain rfl := Option.some.inj h
         obtain ⟨xs, m', rfl, hxx, hlen, hxs, hf⟩ := DataW.trod_struct hu hx
         have a := fieldsL_ok (cs := cs) (m := m') (fun t ts ht cs x hx hw => leafs_ok hK n t ts ht m' cs x hx hw) fs.toList 0 l hl (fun f hfm => by
           obtain ⟨i, hi⟩ := List.mem_iff_getElem?.1 hfm
           have hi2 : fs[i]? = some f := by rw [← Array.getElem?_toList]; exact hi
           have hlt : i < xs.length := by
             rw [hxs]
             exact (Array.getElem?_eq_some_iff.1 hi2).1
           refine ⟨xs[i], by rw [hf i f hi2]; exact List.getElem?_eq_getElem hlt, ?_⟩
           rw [hxx] at hwt
           exact hK.part t fs _ i f _ hu hwt hi2 (by rw [List.getElem?_map, List.getElem?_eq_getElem hlt]; rfl))
         rw [List.drop_zero, ← hc, ← hlen, List.take_length] at a
         exact a
       · cases h
     · cases h
   · rename_i k e hu
     split at h
     · rename_i l hl
       split at h
       · rename_i hc
         obtain rfl := Option.some.inj h
         obtain ⟨xs, m', rfl, hxx, hlen, hxs, hf⟩ := DataW.trod_array hu hx
         have go : ∀ i, i ≤ k → LfL P w M (List.replicate i l).flatten (cs.take (i * l.length)) := by
           intro i
           induction i with
           | zero => intro _; rw [Nat.zero_mul, List.take_zero]; exact .nil
           | succ i ih =>
             intro hi
             have a1 := leafs_ok hK n e l hl m' _ (xs[i]'(by omega)) (by rw [hf i (by omega)]; exact List.getElem?_eq_getElem (by omega)) (by
               rw [hxx] at hwt
               exact hK.arr t k e _ i _ hu hwt (by rw [List.getElem?_map, List.getElem?_eq_getElem (by omega)]; rfl))
             rw [hc.1] at a1
             rw [Nat.succ_mul, List.take_add, List.replicate_succ', List.flatten_append]
             simp only [List.flatten_cons, List.flatten_nil, List.append_nil]
             exact (ih (by omega)).append a1
         have a := go k (Nat.le_refl _)
         rw [← hc.2, ← hlen, List.take_length] at a
         exact a
       · cases h
     · cases h
   · cases h
end
structure LRows (P : Program) (w : World) (M : Nat) (ts : List TypeId) (a : Option Addr) (len cap : Nat) (p : Option Nat) (off : Nat) (G : Nat → Value) : Prop where
 at_ : (Rg.mk p off (cap * ts.length) G false).at w
 sl : SlV a p off len
 le : len ≤ cap
 big : cap ≤ maxLen
 el : ∀ i, i < cap → LfL P w M ts ((List.range ts.length).map fun j => G (i * ts.length + j))
theorem rows_open {H : Type} {enc : TypeId × Value → H} {P : Program} {w : World} {M : Nat} {K : TypeId → DataW H → Prop} (hK : KClosed P M K) {held : Bool} {t e : TypeId} {ts : List TypeId} {n : Nat} (hu : P.underlying t = some (.slice e)) (hl : leafs P n e = some ts) (hc : P.cellsOf e = ts.length) (h0 : 0 < ts.length) {a : Option Addr} {len cap : Nat} {m : Nat} {x : DataW H × List MemPlace}
   (h : DataW.trod enc P w 0 (fun _ => true) held m t [.slice a len cap] = some x) (hwt : K t x.1) : ∃ p off G, LRows P w M ts a len cap p off G := by
 rcases DataW.trod_slice hu h with ⟨h1, _⟩ | ⟨a', len', cap', elems, rest, n', rfl, h1, hxx, hb, hle, hmx, hlen, hel, hsp, _⟩
 · simp at h1
   obtain ⟨rfl, rfl, rfl⟩ := h1
   exact ⟨none, 0, fun _ => undef, fun j hj => absurd hj (by simp), fun h => absurd h (by omega), Nat.le_refl _, by decide, fun i hi => absurd hi (Nat.not_lt_zero i)⟩
 · simp at h1
   obtain ⟨rfl, rfl, rfl⟩ := h1
   rw [hc] at hel hsp
   obtain ⟨hrl, hr⟩ := hsp rfl
   have each : ∀ i, i < cap → ∃ cs, w.cells? 0 (a'.add (i * ts.length)) ts.length = some cs ∧ LfL P w M ts cs := fun i hi => by
     have : ∃ y, (w.cells? 0 (a'.add (i * ts.length)) ts.length).bind (DataW.trod enc P w 0 (fun _ => true) held n' e) = some y ∧ K e y.1 := by
       rw [hxx] at hwt
       by_cases h2 : i < len
       · refine ⟨elems[i]'(by omega), by rw [hel i h2]; exact List.getElem?_eq_getElem (by omega), hK.elem t e _ _ i _ hu hwt (by rw [List.getElem?_map, List.getElem?_eq_getElem (by omega)]; rfl)⟩
       · have := hr (i - len) (by omega)
         rw [show len + (i - len) = i by omega] at this
         refine ⟨rest[i - len]'(by omega), by rw [this]; exact List.getElem?_eq_getElem (by omega), hK.spare t e _ _ (i - len) _ hu hwt (by rw [List.getElem?_map, List.getElem?_eq_getElem (by omega)]; rfl)⟩
     obtain ⟨y, hy, hyw⟩ := this
     obtain ⟨cs, h3, h4⟩ := Option.bind_eq_some_iff.1 hy
     exact ⟨cs, h3, leafs_ok hK n e ts hl n' cs y h4 hyw⟩
   by_cases hz : cap = 0
   · subst hz
     exact ⟨none, 0, fun _ => undef, fun j hj => absurd hj (by simp), fun h => absurd h (by omega), by omega, by decide, fun i hi => absurd hi (Nat.not_lt_zero i)⟩
   have hcs : ∃ C : Nat → List Value, ∀ i, i < cap → w.cells? 0 (a'.add (i * ts.length)) ts.length = some (C i) ∧ LfL P w M ts (C i) :=
     ⟨fun i => if hi : i < cap then (each i hi).choose else [], fun i hi => by
       show w.cells? 0 _ _ = some (if hi : i < cap then (each i hi).choose else []) ∧ LfL P w M ts (if hi : i < cap then (each i hi).choose else [])
       rw [dif_pos hi]; exact (each i hi).choose_spec⟩
   obtain ⟨C, hC⟩ := hcs
   have hsp0 : a'.spot = none := by
     obtain ⟨h2, h3, h4⟩ := World.cells?_some (hC 0 (by omega)).1
     have h5 := h4 0 h0
     rw [Nat.zero_mul, Addr.add_zero', Addr.add_zero', List.getElem?_eq_getElem (by omega)] at h5
     exact cell_spot h5
   obtain ⟨b, o, s⟩ := a'
   simp only at hsp0
   subst hsp0
   have hget : ∀ i j, i < cap → j < ts.length → w.cell? ⟨b, o + (i * ts.length + j), none⟩ = (C i)[j]? := fun i j hi hj => by
     obtain ⟨h2, h3, h4⟩ := World.cells?_some (hC i hi).1
     have h5 := h4 j hj
     rw [Addr.add_mid, Addr.add_mid, Nat.add_assoc] at h5
     exact h5
   have hlC : ∀ i, i < cap → (C i).length = ts.length := fun i hi => (hC i hi).2.length
   refine ⟨some b, o, fun q => (C (q / ts.length)).getD (q % ts.length) undef, fun q hq => ⟨b, rfl, ?_⟩, fun _ => ⟨b, rfl, rfl⟩, hle, hmx, fun i hi => ?_⟩
   · have hq : q < cap * ts.length := hq
     have h2 : q / ts.length < cap := (Nat.div_lt_iff_lt_mul h0).2 hq
     have h3 : q % ts.length < ts.length := Nat.mod_lt _ h0
     have h4 := hget _ _ h2 h3
     rw [Nat.mul_comm, Nat.div_add_mod] at h4
     show w.cell? ⟨b, o + q, none⟩ = some ((C (q / ts.length)).getD (q % ts.length) undef)
     rw [h4, List.getD_eq_getElem?_getD, List.getElem?_eq_getElem (by rw [hlC _ h2]; exact h3)]
     rfl
   · have e : ((List.range ts.length).map fun j => (C ((i * ts.length + j) / ts.length)).getD ((i * ts.length + j) % ts.length) undef) = C i := by
       apply List.ext_getElem?
       intro j
       by_cases hj : j < ts.length
       · rw [List.getElem?_map, List.getElem?_range hj]
         have e1 : (i * ts.length + j) / ts.length = i := by
           rw [Nat.mul_comm, Nat.mul_add_div h0, Nat.div_eq_of_lt hj, Nat.add_zero]
         have e2 : (i * ts.length + j) % ts.length = j := by
           rw [Nat.mul_comm, Nat.mul_add_mod, Nat.mod_eq_of_lt hj]
         show some ((C ((i * ts.length + j) / ts.length)).getD ((i * ts.length + j) % ts.length) undef) = _
         rw [e1, e2, List.getD_eq_getElem?_getD, List.getElem?_eq_getElem (by rw [hlC i hi]; exact hj)]
         rfl
       · rw [List.getElem?_eq_none (by simpa using hj), List.getElem?_eq_none (by rw [hlC i hi]; omega)]
     show LfL P w M ts ((List.range ts.length).map fun j => (C ((i * ts.length + j) / ts.length)).getD ((i * ts.length + j) % ts.length) undef)
     rw [e]
     exact (hC i hi).2
theorem St.roL {B : Nat} {w0 w : World} {L : List Rg} (h : St B w0 L w) (hr : LW.roL L) : ∀ (R : List Rg), (∀ r ∈ R, r.at w ∧ r.rw = false) → St B w0 (R ++ L) w ∧ LW.roL (R ++ L)
 | [], _ => ⟨h, hr⟩
 | r :: R, hR => by
   obtain ⟨h1, h2⟩ := h.roL hr R (fun q hq => hR q (List.mem_cons_of_mem _ hq))
   obtain ⟨h3, h4⟩ := hR r List.mem_cons_self
   obtain ⟨p, off, n, f, rw⟩ := r
   simp only at h4
   subst h4
   exact h1.roC h2 h3
def Opens (P : Program) (w : World) (M : Nat) (D : EL) (ts : List TypeId) (Q : D.α → Prop) : Prop := ∀ cells, LfL P w M ts cells → ∃ (R : List Rg) (b : D.β) (x : D.α), (∀ r ∈ R, r.at w ∧ r.rw = false) ∧ D.side R b x ∧ cells = catL (D.E b x) ∧ Q x
def EL.lifts (D : EL) : Prop := ∀ L L' b x, (∀ r ∈ L, r ∈ L') → D.side L b x → D.side L' b x
theorem LRows.lv {P : Program} {M : Nat} {B : Nat} {w0 w : World} {L : List Rg} {D : EL} {ts : List TypeId} {a : Option Addr} {len cap : Nat} {p : Option Nat} {off : Nat} {G : Nat → Value} (h : LRows P w M ts a len cap p off G) (hst : St B w0 L w) (hr : LW.roL L) {Q : D.α → Prop} (ho : Opens P w M D ts Q) (hl : D.lifts) (hsz : D.sz = ts.length) :
   ∃ (C : List Rg) (X : List D.α), St B w0 (C ++ L) w ∧ LW.roL (C ++ L) ∧ LV D (C ++ L) 0 a len cap X ∧ ∀ (j : Nat) x, X[j]? = some x → Q x := by
 have each : ∀ i, i < cap → ∃ (R : List Rg) (b : D.β) (x : D.α), (∀ r ∈ R, r.at w ∧ r.rw = false) ∧ D.side R b x ∧ ((List.range ts.length).map fun j => G (i * ts.length + j)) = catL (D.E b x) ∧ Q x := fun i hi => ho _ (h.el i hi)
 have hle := h.le
 -- the elements, one by one
 have all : ∀ m, m ≤ len → ∃ (R : List Rg) (X : List D.α), X.length = m ∧ (∀ r ∈ R, r.at w ∧ r.rw = false) ∧ ∀ j x, X[j]? = some x → ∃ b, D.side R b x ∧ ((List.range ts.length).map fun q => G (j * ts.length + q)) = catL (D.E b x) ∧ Q x := by
   intro m
   induction m with
   | zero =>
     intro _
     refine ⟨[], [], rfl, fun r hr => ?_, fun j x hx => ?_⟩
     · cases hr
     · rw [List.getElem?_nil] at hx; cases hx
   | succ m ih =>
     intro hm
     obtain ⟨R, X, h1, h2, h3⟩ := ih (by omega)
     obtain ⟨R1, b, x, h4, h5, h6⟩ := each m (by omega)
     refine ⟨R ++ R1, X ++ [x], by rw [List.length_append, h1]; rfl, fun r hr => (List.mem_append.1 hr).elim (h2 r) (h4 r), fun j y hy => ?_⟩
     by_cases hj : j < m
     · rw [List.getElem?_append_left (by omega)] at hy
       obtain ⟨b', h7, h8⟩ := h3 j y hy
       exact ⟨b', hl _ _ _ _ (fun r hr => List.mem_append_left _ hr) h7, h8⟩
     · have hjm : j = m := by
         have := (List.getElem?_eq_some_iff.1 hy).1
         rw [List.length_append, h1, List.length_singleton] at this; omega
       subst hjm
       rw [List.getElem?_append_right (by omega), h1, Nat.sub_self] at hy
       obtain rfl : x = y := Option.some.inj hy
       exact ⟨b, hl _ _ _ _ (fun r hr => List.mem_append_right _ hr) h5, h6⟩
 obtain ⟨R, X, h1, h2, h3⟩ := all len (Nat.le_refl _)
 obtain ⟨s1, s2⟩ := hst.roL hr (⟨p, off, cap * ts.length, G, false⟩ :: R) (fun r hr => by
   rcases List.mem_cons.1 hr with rfl | hr
   · exact ⟨h.at_, rfl⟩
   · exact h2 r hr)
 refine ⟨_, X, s1, s2, ⟨h1, hle, fun _ => ⟨off, cap * ts.length, 0, off, p, G, false, rfl, h.sl, rfl, by rw [hsz, Nat.zero_add]; exact Nat.mul_le_mul_right _ hle, fun j x hx => ?_⟩⟩, fun j x hx => (h3 j x hx).choose_spec.2.2⟩
 obtain ⟨b, h7, h8, _⟩ := h3 j x hx
 refine ⟨b, hl _ _ _ _ (fun r hr => List.mem_append_left _ (List.mem_cons_of_mem _ hr)) h7, fun k v hv => ?_⟩
 rw [← h8] at hv
 have hk : k < ts.length := by
   have := (List.getElem?_eq_some_iff.1 hv).1
   simpa using this
 rw [List.getElem?_map, List.getElem?_range hk] at hv
 show G (0 + j * D.sz + k) = v
 rw [hsz, Nat.zero_add]
 exact Option.some.inj hv
theorem Bx.lift {L L' : List Rg} {i : Nat} {a : Option Addr} {len cc : Nat} {X : List Byte} (h : Bx L i a len cc X) (hs : ∀ r ∈ L, r ∈ L') : ∃ i', Bx L' i' a len cc X := by
 obtain ⟨hl, hc, h⟩ := h
 by_cases hn : 0 < len
 · obtain ⟨offs, ms, js, os, ps, G, rw, h1, h2⟩ := h hn
   obtain ⟨k, hk⟩ := List.mem_iff_getElem?.1 (hs _ (List.mem_of_getElem? h1))
   exact ⟨k, hl, hc, fun _ => ⟨offs, ms, js, os, ps, G, rw, hk, h2⟩⟩
 · exact ⟨0, hl, hc, fun h => absurd h hn⟩
theorem LfL.part {P : Program} {w : World} {M : Nat} {u : TypeId} {k : IntKind} {s : Nat} (hk : UK k s) (hku : P.underlying u = some (.int k)) : ∀ {n : Nat} {ts : List TypeId} {cs : List Value}, LfL P w M (List.replicate n u ++ ts) cs →
   ∃ (F : Nat → BitVec s) (cs' : List Value), cs = (List.range n).map (fun q => VU k (F q)) ++ cs' ∧ LfL P w M ts cs'
 | 0, ts, cs, h => ⟨fun _ => 0#s, cs, rfl, h⟩
 | n + 1, ts, cs, h => by
   rw [List.replicate_succ, List.cons_append] at h
   cases h with
   | cons h1 t =>
     rename_i v cs1
     have hx : ∃ x : BitVec s, v = VU k x := by
       cases h1 with
       | int hu hw =>
         rw [hku] at hu
         obtain rfl : k = _ := TypeDesc.int.inj (Option.some.inj hu)
         rename_i z
         refine ⟨BitVec.ofInt s z, congrArg (Value.int k) (has_u hk ?_)⟩
         unfold IntKind.has
         simpa [Lit.wf] using hw
       | bool hu => rw [hku] at hu; cases hu
       | bytes hu _ _ _ => rw [hku] at hu; cases hu
     obtain ⟨x, rfl⟩ := hx
     obtain ⟨F, cs', rfl, h2⟩ := LfL.part hk hku t
     refine ⟨fun q => match q with | 0 => x | q + 1 => F q, cs', ?_, h2⟩
     rw [List.range_succ_eq_map, List.map_cons, List.map_map, List.cons_append]
     rfl
theorem LfL.int {P : Program} {w : World} {M : Nat} {u : TypeId} {k : IntKind} (hku : P.underlying u = some (.int k)) {ts : List TypeId} {cs : List Value} (h : LfL P w M (u :: ts) cs) : ∃ (x : Int) (cs' : List Value), cs = .int k x :: cs' ∧ LfL P w M ts cs' := by
 cases h with
 | cons h1 t =>
   cases h1 with
   | int hu hw =>
     rw [hku] at hu
     obtain rfl : k = _ := TypeDesc.int.inj (Option.some.inj hu)
     exact ⟨_, _, rfl, t⟩
   | bool hu => rw [hku] at hu; cases hu
   | bytes hu _ _ _ => rw [hku] at hu; cases hu
theorem LfL.bool {P : Program} {w : World} {M : Nat} {u : TypeId} (hku : P.underlying u = some .bool) {ts : List TypeId} {cs : List Value} (h : LfL P w M (u :: ts) cs) : ∃ (x : Bool) (cs' : List Value), cs = .bool x :: cs' ∧ LfL P w M ts cs' := by
 cases h with
 | cons h1 t =>
   cases h1 with
   | bool hu => exact ⟨_, _, rfl, t⟩
   | int hu hw => rw [hku] at hu; cases hu
   | bytes hu _ _ _ => rw [hku] at hu; cases hu
theorem LfL.bytes {P : Program} {w : World} {M : Nat} {u e : TypeId} (hku : P.underlying u = some (.slice e)) {ts : List TypeId} {cs : List Value} (h : LfL P w M (u :: ts) cs) :
   ∃ (r : Rg) (a : Option Addr) (cap : Nat) (X : List Byte) (i : Nat) (cs' : List Value), (r.at w ∧ r.rw = false) ∧ Bx [r] i a X.length cap X ∧ cs = .slice a X.length cap :: cs' ∧ LfL P w M ts cs' ∧ X.length ≤ M := by
 cases h with
 | cons h1 t =>
   cases h1 with
   | int hu hw => rw [hku] at hu; cases hu
   | bool hu => rw [hku] at hu; cases hu
   | bytes hu he hz hb =>
     obtain ⟨r, X, i, h2, h3, h4⟩ := hz.bx (St.init w.heap.size w (Nat.le_refl _)) roL.nil
     have hl := h4.hl
     subst hl
     exact ⟨r, _, _, X, i, _, ⟨h2.at_ r List.mem_cons_self, h3 r List.mem_cons_self⟩, h4, rfl, t, Nat.le_trans h4.2.1 hb⟩
end Go.LW
namespace Go.LW
set_option linter.unusedSimpArgs false
set_option linter.unusedVariables false
set_option linter.unusedSectionVars false
open Go Go.RowKit
theorem zca {α : Type _} {a : α} {l m : List α} : (a :: l) ++ m = a :: (l ++ m) := rfl
theorem zna {α : Type _} {l : List α} : [] ++ l = l := rfl
theorem zfc {α β : Type _} {f : α → Option β} {a : α} {l : List α} : List.filterMap f (a :: l) = match f a with | none => List.filterMap f l | some b => b :: List.filterMap f l := List.filterMap_cons
theorem zfn {α β : Type _} {f : α → Option β} : List.filterMap f [] = [] := rfl
theorem zgz {α : Type _} {a : α} {l : List α} : (a :: l)[0]? = some a := rfl
theorem zgs {α : Type _} {a : α} {l : List α} {i : Nat} : (a :: l)[i + 1]? = l[i]? := rfl
theorem zsz {α : Type _} {a b : α} {l : List α} : (a :: l).set 0 b = b :: l := rfl
theorem zss {α : Type _} {a b : α} {l : List α} {i : Nat} : (a :: l).set (i + 1) b = a :: l.set i b := rfl
theorem zer {e : Env} {s : Nat} {r : List (Nat × Value)} (t : EnvHas e r) : EnvHas e ((s, e s) :: r) := .cons rfl t
theorem zen {e : Env} : EnvHas e [] := .nil
section step
variable {P : Program} {n : Nat} {K : Pend → Env → World → Prop} {l : List It} {O O' : Pend} {e : Env} {w : World} {i ty : Nat} {d : Tmp} {pos : String} {aft : Array Edge} {gd g : Option (Nat × Bool)}
end step
def Rg.ro (r : Rg) : Rg := ⟨r.p, r.off, r.n, r.f, false⟩
section ro
variable {B : Nat} {w0 w w' : World} {L : List Rg}
end ro
end Go.LW
namespace Go.LW
set_option linter.unusedSimpArgs false
set_option linter.unusedVariables false
set_option linter.unusedSectionVars false
open Go Go.RowKit
section run
variable {P : Program}
end run
section unroll
variable {P : Program} {n : Nat} {R : Exit → Env → World → Prop} {e : Env} {w : World}
def UL (P : Program) (n : Nat) (c : Code) (R : Exit → Env → World → Prop) : Nat → Env → World → Prop
 | 0 => fun _ _ => False
 | m + 1 => fun e w => W P n c (thenR (UL P n c R m) R) e w
theorem UL.next {c : Code} {m : Nat} (h : W P n c (thenR (UL P n c R m) R) e w) : UL P n c R (m + 1) e w := h
theorem UL.nextT {c : Code} {m : Nat} (h : W P n c (thenR (UL P n c R m) R) e w) : thenR (UL P n c R (m + 1)) R .normal e w := h
theorem W.unroll {c : Code} (m : Nat) (h : UL P n c R m e w) : W P n (.loop c) R e w :=
 W.loop (fun m e w => UL P n c R m e w) m h fun m e w hI => by
   cases m with
   | zero => exact hI.elim
   | succ m => exact W.mono hI fun x e w hx => by cases x <;> first | exact ⟨m, Nat.lt_succ_self m, hx⟩ | exact hx
end unroll
section step
variable {P : Program} {n : Nat} {K : Pend → Env → World → Prop} {l : List It} {O O' : Pend} {e : Env} {w : World} {i ty : Nat} {d : Tmp} {pos : String} {aft : Array Edge} {gd g : Option (Nat × Bool)}
end step
end Go.LW
