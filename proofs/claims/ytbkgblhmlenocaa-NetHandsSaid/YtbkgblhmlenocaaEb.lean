import Derived.Test.YtbkgblhmlenocaaEa
import Derived.WideShapes
import Derived.Laws.Externs
import Derived.Lib.SlBytesConst
import Derived.Laws.StructEq
namespace Go.LW
set_option linter.unusedSimpArgs false
set_option linter.unusedVariables false
set_option linter.unusedSectionVars false
open Go Go.RowKit
inductive Iter {S X : Type} (step : S → S ⊕ X → Prop) : S → X → Prop
 | done {s : S} {x : X} (h : step s (.inr x)) : Iter step s x
 | more {s s' : S} {x : X} (h : step s (.inl s')) (t : Iter step s' x) : Iter step s x
inductive IterN {S X : Type} (step : S → S ⊕ X → Prop) : Nat → S → X → Prop
 | done {m : Nat} {s : S} {x : X} (h : step s (.inr x)) : IterN step m s x
 | more {m : Nat} {s s' : S} {x : X} (h : step s (.inl s')) (t : IterN step m s' x) : IterN step (m + 1) s x
theorem Iter.n {S X : Type} {step : S → S ⊕ X → Prop} {s : S} {x : X} (h : Iter step s x) : ∃ m, IterN step m s x := by
 induction h with
 | done h => exact ⟨0, .done h⟩
 | more h _ ih => obtain ⟨m, hm⟩ := ih; exact ⟨m + 1, .more h hm⟩
theorem Iter.count {S X : Type} {step : S → S ⊕ X → Prop} {x : X} (f : Nat → S) (m : Nat) (hs : ∀ i, i < m → step (f i) (.inl (f (i + 1)))) (hx : step (f m) (.inr x)) : Iter step (f 0) x := by
 have key : ∀ d i, i + d = m → Iter step (f i) x := by
   intro d
   induction d with
   | zero => intro i hi; obtain rfl : i = m := by omega
             exact .done hx
   | succ d ih => intro i hi; exact .more (hs i (by omega)) (ih (i + 1) (by omega))
 exact key m 0 (by omega)
def iterR {S X : Type} (o : S ⊕ X) (inv : S → Env → World → Prop) (R : Exit → Env → World → Prop) : Exit → Env → World → Prop
 | .normal, e, w => ∃ s, o = .inl s ∧ inv s e w
 | x, e, w => R x e w
section loops
variable {P : Program} {n : Nat} {R : Exit → Env → World → Prop} {e : Env} {w : World}
theorem W.iter {c : Code} {S X : Type} {step : S → S ⊕ X → Prop} {s0 : S} {x : X} (hI : Iter step s0 x) (inv : S → Env → World → Prop) (h0 : inv s0 e w)
   (round : ∀ s o, step s o → (∀ y, o = .inr y → y = x) → ∀ e w, inv s e w → W P n c (iterR o inv R) e w) : W P n (.loop c) R e w := by
 obtain ⟨m, hm⟩ := hI.n
 refine W.loop (fun m e w => ∃ s, IterN step m s x ∧ inv s e w) m ⟨s0, hm, h0⟩ ?_
 rintro m e w ⟨s, hs, hi⟩
 cases hs with
 | done h =>
   refine (round s _ h (fun y hy => (Sum.inr.inj hy).symm) e w hi).mono fun ex e w hr => ?_
   cases ex with
   | normal => obtain ⟨s', hs', _⟩ := hr; cases hs'
   | _ => exact hr
 | more h t =>
   refine (round s _ h (fun y hy => by cases hy) e w hi).mono fun ex e w hr => ?_
   cases ex with
   | normal => obtain ⟨s', hs', hi'⟩ := hr; cases hs'; exact ⟨_, Nat.lt_succ_self _, _, t, hi'⟩
   | _ => exact hr
theorem W.cutN {c : Code} (J : Env → World → Prop) (h : W P n c (thenR J R) e w) (hJ : ∀ e w, J e w → R .normal e w) : W P n c R e w :=
 h.mono fun x e w hx => by cases x <;> first | exact hJ _ _ hx | exact hx
theorem ifT {p A B : Prop} [Decidable p] (h : if p then A else B) (hc : p) : A := by rw [if_pos hc] at h; exact h
theorem ifF {p A B : Prop} [Decidable p] (h : if p then A else B) (hc : ¬ p) : B := by rw [if_neg hc] at h; exact h
theorem iterR_ret {S X : Type} {o : S ⊕ X} {inv : S → Env → World → Prop} (h : R .ret e w) : iterR o inv R .ret e w := h
theorem iterR_exit {S X : Type} {o : S ⊕ X} {inv : S → Env → World → Prop} {id : Nat} (h : R (.exit id) e w) : iterR o inv R (.exit id) e w := h
theorem iterR_norm {S X : Type} {o : S ⊕ X} {inv : S → Env → World → Prop} (h : ∃ s, o = .inl s ∧ inv s e w) : iterR o inv R .normal e w := h
end loops
section step
variable {P : Program} {n : Nat} {K : Pend → Env → World → Prop} {l : List It} {O O' : Pend} {e : Env} {w : World} {i ty : Nat} {d : Tmp} {pos : String} {aft : Array Edge} {gd g : Option (Nat × Bool)}
variable {B : Nat} {w0 : Base} {L L' : List Rg}
theorem Plan.cmpP {op : BinOp} {t yt : TypeId} {x y : Operand} {k : IntKind} {a b : Int} {p : Prop} [Decidable p] (hop : isCmp op = true) (hg : wantedE n e g = true) (hx : ev n e x = .int k a) (hy : ev n e y = .int k b) (hp : icmp op a b = decide p)
   (h : Plan P n K l O (upd e d (.bool (decide p))) w) : Plan P n K (⟨i, true, ⟨some d, .binOp op t x y yt, ty, pos, aft, gd⟩, g⟩ :: l) O e w := Plan.cmp hop hg hx hy (by rw [hp]; exact h)
theorem Plan.cmpV {op : BinOp} {t yt : TypeId} {x y : Operand} {k : IntKind} {a b : Int} {p : Prop} [Decidable p] {v : Bool} (hop : isCmp op = true) (hg : wantedE n e g = true) (hx : ev n e x = .int k a) (hy : ev n e y = .int k b) (hp : icmp op a b = decide p) (hv : decide p = v)
   (h : Plan P n K l O (upd e d (.bool v)) w) : Plan P n K (⟨i, true, ⟨some d, .binOp op t x y yt, ty, pos, aft, gd⟩, g⟩ :: l) O e w := Plan.cmp hop hg hx hy (by rw [hp, hv]; exact h)
theorem icmp_eq {a b : Int} : icmp .eql a b = decide (a = b) := by unfold icmp; rw [Bool.eq_iff_iff]; simp
theorem icmp_ne {a b : Int} : icmp .neq a b = decide (a ≠ b) := by unfold icmp; rw [Bool.eq_iff_iff]; simp
theorem icmp_lt {a b : Int} : icmp .lss a b = decide (a < b) := rfl
theorem icmp_gt {a b : Int} : icmp .gtr a b = decide (b < a) := rfl
theorem icmp_ge {a b : Int} : icmp .geq a b = decide (b ≤ a) := rfl
theorem icmp_eqN {a b : Nat} : icmp .eql a b = decide (a = b) := by rw [icmp_eq]; exact decide_eq_decide.2 (by omega)
theorem icmp_neN {a b : Nat} : icmp .neq a b = decide (a ≠ b) := by rw [icmp_ne]; exact decide_eq_decide.2 (by omega)
theorem icmp_ltN {a b : Nat} : icmp .lss a b = decide (a < b) := decide_eq_decide.2 (by omega)
theorem icmp_neU {s : Nat} {a b : BitVec s} : icmp .neq (a.toNat : Int) (b.toNat : Int) = decide (a ≠ b) := by rw [icmp_neN]; exact decide_eq_decide.2 ⟨fun h h2 => h (by rw [h2]), fun h h2 => h (BitVec.eq_of_toNat_eq h2)⟩
theorem Plan.idxSlO {t : TypeId} {x y : Operand} {b o o' j len cap sz : Nat} {k : IntKind} (ha : slB P t sz = true) (hg : wantedE n e g = true) (hx : ev n e x = .slice (some ⟨b, o, none⟩) len cap) (hy : ev n e y = .int k (j : Int)) (hj : j < len) (ho : o + j * sz = o')
   (h : Plan P n K l O (upd e d (.pointer (some ⟨b, o', none⟩))) w) : Plan P n K (⟨i, true, ⟨some d, .indexAddr t x y, ty, pos, aft, gd⟩, g⟩ :: l) O e w := Plan.idxSl ha hg hx hy hj (by rw [ho]; exact h)
end step
def Bx (L : List Rg) (i : Nat) (a : Option Addr) (len cc : Nat) (X : List Byte) : Prop :=
 X.length = len ∧ len ≤ cc ∧ (0 < len → ∃ (offs ms js os : Nat) (ps : Option Nat) (G : Nat → Byte) (rw : Bool), L[i]? = some ⟨ps, offs, ms, fun q => VU .u8 (G q), rw⟩ ∧ SlV a ps os len ∧ os = offs + js ∧ js + len ≤ ms ∧ ∀ q, q < len → lit X q = G (js + q))
theorem Bx.bs {L : List Rg} {i : Nat} {a : Option Addr} {len cc : Nat} {X : List Byte} (h : Bx L i a len cc X) (hn : 0 < len) : Bs L a len cc (lit X) := by
 obtain ⟨hl, hc, h⟩ := h
 obtain ⟨offs, ms, js, os, ps, G, rw, h1, h2, h3, h4, h5⟩ := h hn
 exact ⟨i, offs, ms, js, os, ps, G, rw, h1, h2, h3, h4, hc, h5⟩
theorem Bx.bs' {L : List Rg} {i : Nat} {a : Option Addr} {len cc : Nat} {X : List Byte} (h : Bx L i a len cc X) (k : Nat) {ps : Option Nat} {offs ms : Nat} {G : Nat → Byte} {rw : Bool} (hL : L[k]? = some ⟨ps, offs, ms, fun q => VU .u8 (G q), rw⟩) : Bs L a len cc (lit X) := by
 by_cases hn : 0 < len
 · exact h.bs hn
 · obtain ⟨hl, hc, h⟩ := h
   obtain rfl : len = 0 := by omega
   exact ⟨k, offs, ms, 0, offs, ps, G, rw, hL, fun h0 => absurd h0 (Nat.lt_irrefl 0), rfl, Nat.zero_le _, hc, fun q hq => absurd hq (Nat.not_lt_zero q)⟩
theorem Bx.hl {L : List Rg} {i : Nat} {a : Option Addr} {len cc : Nat} {X : List Byte} (h : Bx L i a len cc X) : X.length = len := h.1
theorem Bs.bx {L : List Rg} {a : Option Addr} {len cc : Nat} {X : List Byte} (h : Bs L a len cc (lit X)) (hl : X.length = len) : ∃ i, Bx L i a len cc X := by
 obtain ⟨i, offs, ms, js, os, ps, G, rw, h1, h2, h3, h4, h5, h6⟩ := h
 exact ⟨i, hl, h5, fun _ => ⟨offs, ms, js, os, ps, G, rw, h1, h2, h3, h4, h6⟩⟩
theorem Bx.nil {L : List Rg} (i : Nat) {a : Option Addr} {cc : Nat} : Bx L i a 0 cc [] := ⟨rfl, Nat.zero_le _, fun h => absurd h (Nat.lt_irrefl 0)⟩
theorem Bx.le {L : List Rg} {i : Nat} {a : Option Addr} {len cc : Nat} {X : List Byte} (h : Bx L i a len cc X) : len ≤ cc := h.2.1
theorem Bx.app {L : List Rg} {i : Nat} {a : Option Addr} {len cc : Nat} {X : List Byte} (h : Bx L i a len cc X) (C : List Rg) : Bx (C ++ L) (i + C.length) a len cc X := by
 obtain ⟨hl, hc, h⟩ := h
 refine ⟨hl, hc, fun hn => ?_⟩
 obtain ⟨offs, ms, js, os, ps, G, rw, h1, h2⟩ := h hn
 refine ⟨offs, ms, js, os, ps, G, rw, ?_, h2⟩
 rw [List.getElem?_append_right (by omega), Nat.add_sub_cancel]; exact h1
theorem Bx.seg {L : List Rg} {i : Nat} {a : Option Addr} {len cc : Nat} {X : List Byte} (h : Bx L i a len cc X) {lo hi : Nat} (hb : lo ≤ hi ∧ hi ≤ len) : Bx L i (if cc = lo then a else a.map (·.add (lo * 1))) (hi - lo) (cc - lo) (seg X lo hi) := by
 obtain ⟨hl, hc, h⟩ := h
 refine ⟨seg_length (by omega), by omega, fun hn => ?_⟩
 obtain ⟨offs, ms, js, os, ps, G, rw, h1, h2, h3, h4, h6⟩ := h (by omega)
 refine ⟨offs, ms, js + lo, os + lo, ps, G, rw, h1, ?_, by omega, by omega, fun q hq => ?_⟩
 · intro hn
   obtain ⟨b, hb1, hb2⟩ := h2 (by omega)
   refine ⟨b, hb1, ?_⟩
   rw [if_neg (by omega), hb2]
   simp [Addr.add]
 · rw [lit_seg (by omega) (by omega), h6 _ (by omega), Nat.add_assoc]
structure Ow (a : Option Addr) (pb : Option Nat) (len cap : Nat) (F : Nat → Byte) (X : List Byte) : Prop where
 ho : OwnSl a pb cap
 hc : len ≤ cap
 hl : X.length = len
 hF : ∀ q, q < len → lit X q = F q
theorem Ow.nil : Ow none none 0 0 (fun _ => 0#8) [] := ⟨OwnSl.nil, Nat.le_refl _, rfl, fun q hq => absurd hq (Nat.not_lt_zero q)⟩
theorem Ow.bx {L : List Rg} {a : Option Addr} {pb : Option Nat} {len cap : Nat} {F : Nat → Byte} {X : List Byte} (h : Ow a pb len cap F X) (k : Nat) {rw : Bool} (hL : L[k]? = some ⟨pb, 0, cap, fun q => VU .u8 (F q), rw⟩) : Bx L k a len cap X :=
 ⟨h.hl, h.hc, fun _ => ⟨0, cap, 0, 0, pb, F, rw, hL, h.ho.sl h.hc, rfl, by have := h.hc; omega, fun q hq => by rw [Nat.zero_add]; exact h.hF q hq⟩⟩
section step
variable {P : Program} {n : Nat} {K : Pend → Env → World → Prop} {l : List It} {O O' : Pend} {e : Env} {w : World} {i ty : Nat} {d : Tmp} {pos : String} {aft : Array Edge} {gd g : Option (Nat × Bool)}
variable {B : Nat} {w0 : Base} {L L' : List Rg}
theorem Plan.idxV {t : TypeId} {x y : Operand} {k : IntKind} {ix len cc j : Nat} {a : Option Addr} {X : List Byte} (hX : Bx L ix a len cc X) (ha : slB P t 1 = true) (hg : wantedE n e g = true) (hx : ev n e x = .slice a len cc) (hy : ev n e y = .int k (j : Int)) (hj : j < len)
   (h : Plan P n K l O (upd e d (.pointer (a.map fun z => ⟨z.block, z.off + j, none⟩))) w) : Plan P n K (⟨i, true, ⟨some d, .indexAddr t x y, ty, pos, aft, gd⟩, g⟩ :: l) O e w := by
 obtain ⟨hl, hc, hX⟩ := hX
 obtain ⟨offs, ms, js, os, ps, G, rw, h1, h2, h3⟩ := hX (by omega)
 obtain ⟨b, hb1, hb2⟩ := h2 (by omega)
 subst hb2
 exact Plan.idxSl1 ha hg hx hy hj h
theorem Plan.loadV (hst : St B w0 L w) {t : TypeId} {x : Operand} {ix len cc j : Nat} {a : Option Addr} {X : List Byte} (hX : Bx L ix a len cc X) (hg : wantedE n e g = true) (hx : ev n e x = .pointer (a.map fun z => ⟨z.block, z.off + j, none⟩)) (hj : j < len) (ht : scalarT P t = true)
   (h : ∀ r, L[ix]? = some r → Plan P n K l ((i, r.at) :: O) (upd e d (VU .u8 (lit X j))) w) : Plan P n K (⟨i, true, ⟨some d, .load t x, ty, pos, aft, gd⟩, g⟩ :: l) O e w := by
 obtain ⟨hl, hc, hX⟩ := hX
 obtain ⟨offs, ms, js, os, ps, G, rw, h1, h2, h3, h4, h6⟩ := hX (by omega)
 obtain ⟨b, hb1, hb2⟩ := h2 (by omega)
 subst hb2 hb1
 have hx' : ev n e x = .pointer (some ⟨b, offs + (js + j), none⟩) := by rw [hx, ← Nat.add_assoc, ← h3]; rfl
 refine Plan.load1 hst ix hg hx' h1 (by omega) ht ?_
 have := h _ h1
 rw [h6 j hj] at this
 exact this
theorem Plan.storeO (hst : St B w0 L w) {t : TypeId} {x y : Operand} {len cap j : Nat} {a : Option Addr} {pb : Option Nat} {F : Nat → Byte} {X : List Byte} {Y : Byte} (k : Nat) (hO : Ow a pb len cap F X) (hg : wantedE n e g = true) (hx : ev n e x = .pointer (a.map fun z => ⟨z.block, z.off + j, none⟩)) (hy : ev n e y = VU .u8 Y)
   (hL : L[k]? = some ⟨pb, 0, cap, fun q => VU .u8 (F q), true⟩) (hj : j < len) (ht : szT P t 1 = true) (hw : O.all (fun p => waitsO ⟨none, .store t x y, ty, pos, aft, gd⟩ p.1) = true)
   (h : ∀ w' F', Ow a pb len cap F' (X.set j Y) → St B w0 (L.set k ⟨pb, 0, cap, fun q => VU .u8 (F' q), true⟩) w' → Plan P n K l [] e w') : Plan P n K (⟨i, false, ⟨none, .store t x y, ty, pos, aft, gd⟩, g⟩ :: l) O e w := by
 have hOc := hO.hc
 obtain ⟨b, rfl, rfl⟩ := hO.ho.pos (by omega)
 refine Plan.storeU (off := 0) hst k hg (by rw [hx]; rfl) hy hL (by omega) ht hw fun w' h' => h w' _ ⟨hO.ho, hOc, by rw [List.length_set]; exact hO.hl, fun q hq => ?_⟩ h'
 have h1 := hO.hF q hq
 have h2 := hO.hl
 unfold lit at h1 ⊢
 rw [upd_at]
 by_cases hqj : q = j
 · subst hqj; rw [if_pos rfl, List.getD_eq_getElem?_getD, List.getElem?_set_self (by omega)]; rfl
 · rw [if_neg hqj, ← h1, List.getD_eq_getElem?_getD, List.getD_eq_getElem?_getD, List.getElem?_set_ne (Ne.symm hqj)]
theorem Plan.appendO (hst : St B w0 L w) {t t' sz : TypeId} {x y : Operand} {len cap m cy iy : Nat} {a ay : Option Addr} {pb : Option Nat} {F : Nat → Byte} {X Y : List Byte} (k : Nat) (hO : Ow a pb len cap F X) (he : elD P t = some (1, 1, some (VU .u8 0#8))) (ht' : slB P t' sz = true) (hg : wantedE n e g = true)
   (hx : ev n e x = .slice a len cap) (hy : ev n e y = .slice ay m cy) (hL : L[k]? = some ⟨pb, 0, cap, fun q => VU .u8 (F q), true⟩) (hY : Bx L iy ay m cy Y) (hb : len + m ≤ 140737488355328)
   (hw : ∀ r, EffO aft O (L.set k r) O')
   (h : ∀ a' pb' cap' (F' : Nat → Byte) w', Ow a' pb' (X ++ Y).length cap' F' (X ++ Y) → St B w0 (L.set k ⟨pb', 0, cap', fun q => VU .u8 (F' q), true⟩) w' → Plan P n K l O' (updO e (some d) (.slice a' (X ++ Y).length cap')) w') :
   Plan P n K (⟨i, false, ⟨some d, .call ⟨.builtin .append, #[x, y], #[t, t']⟩, ty, pos, aft, gd⟩, g⟩ :: l) O e w :=
 Plan.appendL hst k he ht' hg hx hy hL hO.ho hO.hc hO.hl hO.hF (hY.bs' k hL) hY.hl hb hw fun a' pb' cap' F' w' h1 h2 h3 h4 => h a' pb' cap' F' w' ⟨h1, h2, rfl, h3⟩ h4
theorem St.nilR (h : St B w0 L w) : St B w0 (⟨none, 0, 0, fun q => VU .u8 ((fun _ => 0#8 : Nat → Byte) q), true⟩ :: L) w := h.ownNil
end step
end Go.LW
namespace Go.LW
set_option linter.unusedSimpArgs false
set_option linter.unusedVariables false
set_option linter.unusedSectionVars false
open Go Go.RowKit
section step
variable {P : Program} {n : Nat} {K : Pend → Env → World → Prop} {l : List It} {O O' : Pend} {e : Env} {w : World} {i ty : Nat} {d : Tmp} {pos : String} {aft : Array Edge} {gd g : Option (Nat × Bool)}
variable {B : Nat} {w0 : Base} {L L' : List Rg}
theorem Plan.eqStrV {t yt : TypeId} {x y : Operand} {X Y : List Byte} {v : Bool} (hg : wantedE n e g = true) (hx : ev n e x = .string (strL X)) (hy : ev n e y = .string (strL Y)) (hv : decide (X = Y) = v)
   (h : Plan P n K l O (upd e d (.bool v)) w) : Plan P n K (⟨i, true, ⟨some d, .binOp .eql t x y yt, ty, pos, aft, gd⟩, g⟩ :: l) O e w := Plan.eqStr hg hx hy (by rw [hv]; exact h)
theorem Plan.neStrV {t yt : TypeId} {x y : Operand} {X Y : List Byte} {v : Bool} (hg : wantedE n e g = true) (hx : ev n e x = .string (strL X)) (hy : ev n e y = .string (strL Y)) (hv : decide (X = Y) = v)
   (h : Plan P n K l O (upd e d (.bool (!v))) w) : Plan P n K (⟨i, true, ⟨some d, .binOp .neq t x y yt, ty, pos, aft, gd⟩, g⟩ :: l) O e w := Plan.val hg (fun w => run_stringOp hx hy (by
     unfold Op.stringOp
     show (pure (Value.bool ((strL X).toList != (strL Y).toList)) : Sem Value).run P w = _
     have h1 := toList_inj (A := strL X) (B := strL Y)
     have h2 : ((strL X).toList != (strL Y).toList) = !v := by
       rw [bne, h1, ← hv]; congr 1; exact decide_eq_decide.2 strL_inj
     rw [h2]; rfl) (.inr rfl)) h
theorem Plan.slV {t : TypeId} {x : Operand} {ix len cap lo hi : Nat} {a : Option Addr} {X : List Byte} {low high : Option Operand} (hX : Bx L ix a len cap X) (ha : slB P t 1 = true) (hg : wantedE n e g = true) (hx : ev n e x = .slice a len cap)
   (hlo : match low with | some y => ∃ k, ev n e y = .int k (lo : Int) | none => lo = 0) (hhi : match high with | some y => ∃ k, ev n e y = .int k (hi : Int) | none => hi = len) (hb : lo ≤ hi ∧ hi ≤ len)
   (h : ∀ a' c', Bx L ix a' (seg X lo hi).length c' (seg X lo hi) → Plan P n K l O (upd e d (.slice a' (seg X lo hi).length c')) w) : Plan P n K (⟨i, true, ⟨some d, .slice t x low high none, ty, pos, aft, gd⟩, g⟩ :: l) O e w := by
 have h1 := hX.seg hb
 have h2 : (seg X lo hi).length = hi - lo := h1.hl
 refine Plan.slSl ha hg hx hlo hhi (by have := hX.le; omega) ?_
 rw [← h2] at h1 ⊢
 exact h _ _ h1
theorem Plan.toStrV (hst : St B w0 L w) {src dst el : TypeId} {x : Operand} {a : Option Addr} {ix len c : Nat} {X : List Byte} (hX : Bx L ix a len c X) (hs : P.underlying src = some (.slice el)) (he : P.underlying el = some (.int .u8)) (hd : P.underlying dst = some .string) (hg : wantedE n e g = true)
   (hx : ev n e x = .slice a len c) (h : ∀ r : Rg, (r.n = 0 ∨ L[ix]? = some r) → Plan P n K l ((i, r.at) :: O) (upd e d (.string (strL X))) w) :
   Plan P n K (⟨i, true, ⟨some d, .convert src dst x, ty, pos, aft, gd⟩, g⟩ :: l) O e w := by
 obtain ⟨hl, hc, h0⟩ := hX
 by_cases hn : 0 < len
 · obtain ⟨offs, ms, js, os, ps, G, rw, h1, h2, h3, h4, h6⟩ := h0 hn
   have hr := h _ (.inr h1)
   refine Plan.held _ hg (hst.mem h1) (fun w hw => run_v ?_) hr
   rw [hx]
   obtain ⟨b, hp, ha⟩ := h2 hn
   subst ha
   refine run_convert_bytes_arg w src el hs he b os len c (X.map fun b => (b.toNat : Int)) (by simpa using hl) (fun q hq => ?_) dst hd
   obtain ⟨b', hp', hc'⟩ := hw (js + q) (show js + q < ms by omega)
   simp only at hp'
   rw [hp] at hp'
   obtain rfl := Option.some.inj hp'
   rw [h3, Nat.add_assoc]
   rw [hc']
   show some (VU .u8 (G (js + q))) = _
   rw [← h6 q hq]
   congr 1
   unfold lit
   simp only [List.getD_eq_getElem?_getD, List.getElem?_map]
   rw [List.getElem?_eq_getElem (by omega)]
   simp
 · obtain rfl : len = 0 := by omega
   obtain rfl := List.length_eq_zero_iff.1 hl
   have hr := h ⟨none, 0, 0, fun _ => undef, true⟩ (.inl rfl)
   refine Plan.held _ hg (fun j hj => absurd hj (Nat.not_lt_zero j)) (fun w hw => run_v ?_) hr
   rw [hx, run_convert_bytes_string w src dst el _ 0 c hs he hd]
   cases a <;> simp [Conv.bytesToString, loadCells]
   all_goals rfl
end step
end Go.LW
namespace Go.LW
set_option linter.unusedSimpArgs false
set_option linter.unusedVariables false
set_option linter.unusedSectionVars false
open Go Go.RowKit
section step
variable {P : Program} {n : Nat} {K : Pend → Env → World → Prop} {l : List It} {O O' : Pend} {e : Env} {w : World} {i ty : Nat} {d : Tmp} {pos : String} {aft : Array Edge} {gd g : Option (Nat × Bool)}
variable {B : Nat} {w0 : Base} {L L' : List Rg}
theorem run_isAgg {t : TypeId} {m : Nat} (ht : aggT P t m = true) (w : World) : (isAgg t).run P w = .ok true w := by
 obtain ⟨dsc, hu, hr, _⟩ := aggT_spec ht
 unfold isAgg
 rw [Sem.run_bind, run_underlying hu w]
 cases dsc <;> first | rfl | cases hr
theorem run_isAggN {t : TypeId} (ht : scalarT P t = true) (w : World) : (isAgg t).run P w = .ok false w := by
 unfold scalarT at ht
 unfold isAgg
 cases hu : P.underlying t with
 | none => rw [hu] at ht; cases ht
 | some dd =>
   rw [Sem.run_bind, run_underlying hu w]
   rw [hu] at ht
   cases dd <;> first | rfl | cases ht
theorem aggT_sz {t : TypeId} {m : Nat} (ht : aggT P t m = true) : szT P t m = true := by
 unfold aggT at ht; unfold szT
 simp only [Bool.and_eq_true] at ht; exact ht.2
theorem extract_mid (A C D : List Value) : (A ++ C ++ D).toArray.extract A.length (A.length + C.length) = C.toArray := by
 apply Array.ext'
 rw [List.append_assoc]
 simp
theorem run_partA {t : TypeId} {m : Nat} (ht : aggT P t m = true) {cs A C D : List Value} (hc : cs = A ++ C ++ D) (hm : C.length = m) (w : World) : (part t cs.toArray A.length).run P w = .ok (.agg C.toArray) w := by
 subst hc
 unfold part
 rw [Sem.run_bind, run_isAgg ht w]
 simp only [Result.andThen, if_true]
 rw [Sem.run_bind, szT_spec (aggT_sz ht) w]
 simp only [Result.andThen, Sem.run_pure]
 rw [← hm, extract_mid]
theorem catL_app (A C : List (Nat × (Nat → Value))) : catL (A ++ C) = catL A ++ catL C := by unfold catL; rw [List.flatMap_append]
def Bss (L : List Rg) (ix : Nat) (a : Option Addr) (len cc : Nat) (X : List (List Byte)) : Prop :=
 X.length = len ∧ len ≤ cc ∧ (0 < len → ∃ (offs ms js b : Nat) (A : Nat → Option Addr) (N C : Nat → Nat) (rw : Bool), L[ix]? = some ⟨some b, offs, ms, fun q => .slice (A q) (N q) (C q), rw⟩ ∧ a = some ⟨b, offs + js, none⟩ ∧ js + len ≤ ms ∧ ∀ q, q < len → ∃ iy, Bx L iy (A (js + q)) (N (js + q)) (C (js + q)) (X.getD q []))
theorem Bss.hl {L : List Rg} {ix : Nat} {a : Option Addr} {len cc : Nat} {X : List (List Byte)} (h : Bss L ix a len cc X) : X.length = len := h.1
theorem Bss.nil {L : List Rg} (ix : Nat) {a : Option Addr} {cc : Nat} : Bss L ix a 0 cc [] := ⟨rfl, Nat.zero_le _, fun h => absurd h (Nat.lt_irrefl 0)⟩
theorem Bss.app {L : List Rg} {ix : Nat} {a : Option Addr} {len cc : Nat} {X : List (List Byte)} (h : Bss L ix a len cc X) (D : List Rg) : Bss (D ++ L) (ix + D.length) a len cc X := by
 obtain ⟨hl, hc, h⟩ := h
 refine ⟨hl, hc, fun hn => ?_⟩
 obtain ⟨offs, ms, js, b, A, N, C, rw, h1, h2, h3, h4⟩ := h hn
 refine ⟨offs, ms, js, b, A, N, C, rw, ?_, h2, h3, fun q hq => ?_⟩
 · rw [List.getElem?_append_right (by omega), Nat.add_sub_cancel]; exact h1
 · obtain ⟨iy, hy⟩ := h4 q hq; exact ⟨_, hy.app D⟩
theorem writeL_mid (Y : List Value) : ∀ (A Z C : List Value), Y.length = Z.length → writeL (A ++ Z ++ C) A.length Y = A ++ Y ++ C := by
 induction Y with
 | nil => intro A Z C h; obtain rfl := List.length_eq_zero_iff.1 h.symm; rfl
 | cons y Y ih =>
   intro A Z C h
   cases Z with
   | nil => simp at h
   | cons z Z =>
     have h1 : (A ++ z :: Z ++ C).set A.length y = (A ++ [y]) ++ Z ++ C := by simp
     show writeL ((A ++ z :: Z ++ C).set A.length y) (A.length + 1) Y = _
     rw [h1]
     have h2 := ih (A ++ [y]) Z C (by simpa using h)
     rw [List.length_append] at h2
     rw [show A.length + 1 = A.length + [y].length from rfl, h2]
     simp
abbrev PS := List (Nat × (Nat → Value))
inductive FillP (pl : List (Nat × Nat)) : PS → List (Nat × Value) → PS → Prop
 | nil {z : PS} : FillP pl z [] z
 | agg {i : Nat} {r : List (Nat × Value)} {ps : PS} (A Z C Y : PS) (h : pl[i]? = some ((A.map (·.1)).sum, (Z.map (·.1)).sum)) (hs : (Y.map (·.1)).sum = (Z.map (·.1)).sum) (t : FillP pl (A ++ Y ++ C) r ps) : FillP pl (A ++ Z ++ C) ((i, AG Y) :: r) ps
 | one {i : Nat} {r : List (Nat × Value)} {ps : PS} {v : Value} (A C : PS) (F : Nat → Value) (h : pl[i]? = some ((A.map (·.1)).sum, 1)) (hv : cellsL v = [v]) (t : FillP pl (A ++ [(1, fun _ => v)] ++ C) r ps) : FillP pl (A ++ [(1, F)] ++ C) ((i, v) :: r) ps
theorem fillStep {place : Nat → Option (Nat × Nat)} {A Z C Y : List Value} {i : Nat} {v : Value} {r : List (Nat × Value)} (h : place i = some (A.length, Z.length)) (hs : Y.length = Z.length) (hv : cellsL v = Y) : fillL place (A ++ Z ++ C) ((i, v) :: r) = fillL place (A ++ Y ++ C) r := by
 simp only [fillL, h, hv]
 have h1 : (Nat.beq Y.length Z.length && Nat.ble (A.length + Z.length) (A ++ Z ++ C).length) = true := by
   simp only [Bool.and_eq_true, Nat.beq_eq, Nat.ble_eq, List.length_append]; omega
 rw [h1, writeL_mid Y A Z C hs]; rfl
theorem FillP.fill {pl : List (Nat × Nat)} {z ps : PS} {vs : List (Nat × Value)} (h : FillP pl z vs ps) : fillL (fun i => pl[i]?) (catL z) vs = some (catL ps) := by
 induction h with
 | nil => rfl
 | agg A Z C Y h hs t ih =>
   rw [catL_app, catL_app] at ih ⊢
   rw [fillStep (Y := catL Y) (by rw [h, catL_length, catL_length]) (by rw [catL_length, catL_length, hs]) rfl]
   exact ih
 | @one i r ps v A C F h hv t ih =>
   rw [catL_app, catL_app] at ih ⊢
   rw [fillStep (A := catL A) (Z := catL [(1, F)]) (C := catL C) (Y := catL [(1, fun _ => v)]) (place := fun i => pl[i]?) (by simp only [h, catL_length]; rfl) rfl (by rw [hv]; rfl)]
   exact ih
theorem Plan.buildP {t : TypeId} {parts : Array (Nat × Operand)} {pl : List (Nat × Nat)} {zps ps : List (Nat × (Nat → Value))} {vs : List (Nat × Value)} (ha : placesB P t pl = true) (hpl : pl.all (fun q => q.2 < 1000000) = true) (hz : zeroIs P t zps) (hg : wantedE n e g = true)
   (hv : parts.toList.map (fun p => (p.1, ev n e p.2)) = vs) (hf' : FillP pl zps vs ps)
   (h : Plan P n K l O (upd e d (AG ps)) w) : Plan P n K (⟨i, true, ⟨some d, .build t parts, ty, pos, aft, gd⟩, g⟩ :: l) O e w := Plan.buildStr ha hpl hz hg hv hf'.fill h
theorem Bx.move {L L' : List Rg} {i j : Nat} {r : Rg} {a : Option Addr} {len cc : Nat} {X : List Byte} (h : Bx L i a len cc X) (hi : L[i]? = some r) (hj : L'[j]? = some r) : Bx L' j a len cc X := by
 obtain ⟨hl, hc, h⟩ := h
 refine ⟨hl, hc, fun hn => ?_⟩
 obtain ⟨offs, ms, js, os, ps, G, rw, h1, h2⟩ := h hn
 rw [hi] at h1
 exact ⟨offs, ms, js, os, ps, G, rw, hj.trans h1, h2⟩
theorem Plan.idxVS (hst : St B w0 L w) {t : TypeId} {x y : Operand} {k : IntKind} {ix len cc j : Nat} {a : Option Addr} {X : List Byte} (hX : Bx L ix a len cc X) (ha : slB P t 1 = true) (hg : wantedE n e g = true) (hx : ev n e x = .slice a len cc) (hy : ev n e y = .int k (j : Int)) (hj : j < len)
   (h : Plan P n K l O (upd e d (.pointer (a.map fun z => ⟨z.block, z.off + j, none⟩))) w) : Plan P n K (⟨i, true, ⟨some d, .indexAddr t x y, ty, pos, aft, gd⟩, g⟩ :: l) O e w := Plan.idxV hX ha hg hx hy hj h
end step
end Go.LW
namespace Go.LW
set_option linter.unusedSimpArgs false
set_option linter.unusedVariables false
set_option linter.unusedSectionVars false
open Go Go.RowKit
theorem cell_u {P : Program} {w : World} {r : Reach} {base : Nat} {t : TypeId} {v : Value} {k : IntKind} (hu : P.underlying t = some (.int k)) (h : Cell.okWide P w r base t v) : ∃ n, v = .int k n ∧ k.has n := by
 unfold Cell.okWide at h
 rw [hu] at h
 cases v <;> simp [Cell.ok, hu] at h
 obtain ⟨rfl, h⟩ := h
 exact ⟨_, rfl, h⟩
theorem arg_int {P : Program} {w : World} {r : Reach} {base : Nat} {t : TypeId} {v : Value} {k : IntKind} (hu : P.underlying t = some (.int k)) (h : Value.okWide P w r base t v) : ∃ n, v = .int k n ∧ k.has n := by
 unfold Value.okWide at h
 rw [hu] at h
 exact cell_u hu h
theorem IsRow.bx {B : Nat} {w0 : Base} {w : World} {L : List Rg} {a : Option Addr} {len cap : Nat} {zs : List Int} (hz : IsRow .u8 w a len cap zs) (h : St B w0 L w) (hr : roL L) : ∃ (r : Rg) (X : List Byte) (ix : Nat), St B w0 (r :: L) w ∧ roL (r :: L) ∧ Bx (r :: L) ix a len cap X := by
 obtain ⟨r, h1, h2, h3⟩ := hz.bytes h hr
 obtain ⟨X, hl, h4⟩ := h3.list
 obtain ⟨ix, h5⟩ := h4.bx hl
 exact ⟨r, X, ix, h1, h2, h5⟩
end Go.LW
namespace Go.LW
set_option linter.unusedSimpArgs false
set_option linter.unusedVariables false
set_option linter.unusedSectionVars false
open Go Go.RowKit
section step
variable {P : Program} {n : Nat} {K : Pend → Env → World → Prop} {l : List It} {O O' : Pend} {e : Env} {w : World} {i ty : Nat} {d : Tmp} {pos : String} {aft : Array Edge} {gd g : Option (Nat × Bool)}
variable {B : Nat} {w0 : Base} {L L' : List Rg}
theorem Ow.cut {a : Option Addr} {pb : Option Nat} {len cap : Nat} {F : Nat → Byte} {X : List Byte} (h : Ow a pb len cap F X) {m : Nat} (hm : m ≤ len) (ha : ¬ (m = 0 ∧ False)) : Ow a pb (seg X 0 m).length m F (seg X 0 m) := by
 have hl : (seg X 0 m).length = m := by rw [seg_length (by rw [h.hl]; exact hm), Nat.sub_zero]
 refine ⟨?_, by omega, rfl, fun q hq => ?_⟩
 · rcases h.ho with ⟨h1, h2, h3⟩ | h1
   · exact .inl ⟨by have := h.hc; omega, h2, h3⟩
   · exact .inr h1
 · rw [hl] at hq
   rw [lit_seg (by rw [h.hl]; exact hm) (by omega), Nat.zero_add]
   exact h.hF q (by omega)
end step
section step2
variable {P : Program} {n : Nat} {K : Pend → Env → World → Prop} {l : List It} {O O' : Pend} {e : Env} {w : World} {i i2 ty ty2 : Nat} {d d2 : Tmp} {pos pos2 : String} {aft aft2 : Array Edge} {gd gd2 g g2 : Option (Nat × Bool)}
variable {B : Nat} {w0 : Base} {L L' : List Rg}
end step2
end Go.LW
namespace Go.LW
set_option linter.unusedSimpArgs false
set_option linter.unusedVariables false
set_option linter.unusedSectionVars false
open Go Go.RowKit
section step3
variable {P : Program} {n : Nat} {K : Pend → Env → World → Prop} {l : List It} {O O' : Pend} {e : Env} {w : World} {i i2 i3 ty ty2 ty3 : Nat} {d d2 d3 : Tmp} {pos pos2 pos3 : String} {aft aft2 aft3 : Array Edge} {gd gd2 gd3 g g2 g3 : Option (Nat × Bool)}
variable {B : Nat} {w0 : Base} {L L' : List Rg}
end step3
end Go.LW
namespace Go.LW
set_option linter.unusedSimpArgs false
set_option linter.unusedVariables false
set_option linter.unusedSectionVars false
open Go Go.RowKit
structure FA where
 i : Nat
 d : Nat
 T : TypeId
 ps : List (Nat × (Nat → Value))
def ov (ds : List Nat) (z e : Env) : Env := fun i => cond (ds.any (Nat.beq i)) (z i) (e i)
theorem St.perm {B : Nat} {w0 : Base} {w : World} {L L' : List Rg} (h : St B w0 L w) (hp : L.Perm L') : St B w0 L' w :=
 ⟨h.below, h.base, fun r hr => h.at_ r (hp.mem_iff.2 hr), fun r hr => h.free r (hp.mem_iff.2 hr), (hp.pairwise_iff (fun h => Rg.apart.symm h)).1 h.apart⟩
section
variable {P : Program} {n : Nat} {ops : Array Oper} {Q : Exit → Act → World → Prop} {B : Nat} {w0 : Base}
def KE (G : Env → World → Prop) (B : Nat) (w0 : Base) (F L : List Rg) : List FA → List Rg → Env → Prop
 | [], R, e => ∀ w, St B w0 (F ++ (R ++ L)) w → G e w
 | a :: A, R, e => ∀ b, KE G B w0 F L A (R ++ rngs b 0 a.ps) (upd e a.d (.pointer (some ⟨b, 0, none⟩)))
def PX (P : Program) (n : Nat) (ops : Array Oper) (B : Nat) (L : List Rg) (ds : List Nat) (Z : Base → List Rg → Pend → Env → Prop) : List (List (Nat × Bool)) → Base → List Rg → Pend → Env → Prop
 | [], w0, F, O, e => Z w0 F O e
 | σ :: segs, w0, F, O, e => ∀ C z w, St B w0 (F ++ (C ++ L)) w →
     Plan P n (fun O' e' w' => ∃ w1 F', St B w1 (F' ++ (C ++ L)) w' ∧ PIn O' (F' ++ L) ∧ PX P n ops B L ds Z segs w1 F' O' e') (items ops σ) O (ov ds z e) w
theorem KE.all {G : Env → World → Prop} {F L : List Rg} (bs : Nat → Nat) : ∀ (A : List FA) (R : List Rg) (e : Env), KE G B w0 F L A R e →
   ∀ w, St B w0 (F ++ (R ++ A.flatMap (fun a => rngs (bs a.d) 0 a.ps) ++ L)) w → G (A.foldl (fun e a => upd e a.d (.pointer (some ⟨bs a.d, 0, none⟩))) e) w
 | [], R, e, h, w, hst => h w (by simpa using hst)
 | a :: A, R, e, h, w, hst => by
   refine KE.all bs A _ _ (h (bs a.d)) w ?_
   simpa [List.append_assoc] using hst
theorem KE.mono {G G' : Env → World → Prop} {F L : List Rg} (h : ∀ e w, G e w → G' e w) : ∀ (A : List FA) (R : List Rg) (e : Env), KE G B w0 F L A R e → KE G' B w0 F L A R e
 | [], _, _, hk => fun w hst => h _ _ (hk w hst)
 | _ :: A, _, _, hk => fun b => KE.mono h A _ _ (hk b)
theorem PX.mono {L : List Rg} {ds : List Nat} {Z Z' : Base → List Rg → Pend → Env → Prop} (h : ∀ w0 F O e, Z w0 F O e → Z' w0 F O e) : ∀ (segs : List (List (Nat × Bool))) (w0 : Base) (F : List Rg) (O : Pend) (e : Env), PX P n ops B L ds Z segs w0 F O e → PX P n ops B L ds Z' segs w0 F O e
 | [], _, _, _, _, hk => h _ _ _ _ hk
 | _ :: segs, _, _, _, _, hk => fun C z w hst => Plan.mono (fun _ _ _ ⟨w1, F', h1, h2, h3⟩ => ⟨w1, F', h1, h2, PX.mono h segs _ _ _ _ h3⟩) _ _ _ _ (hk C z w hst)
end
section
variable {P : Program} {n : Nat} {ops : Array Oper} {B : Nat} {w0 : Base}
theorem PX.done {L : List Rg} {ds : List Nat} {Z : Base → List Rg → Pend → Env → Prop} {F : List Rg} {O : Pend} {e : Env} (h : Z w0 F O e) : PX P n ops B L ds Z [] w0 F O e := h
theorem flun {L C : List Rg} {i : Nat} {r : Rg} (h : (C ++ L)[i + C.length]? = some r) : L[i]? = some r := by
 rw [List.getElem?_append_right (by omega), Nat.add_sub_cancel] at h; exact h
end
section regions
variable {P : Program} {n : Nat} {R : Exit → Env → World → Prop} {e : Env} {w : World} {B : Nat} {w0 : Base}
inductive ZeroL (P : Program) : List (TypeId × List (Nat × (Nat → Value))) → Prop
 | nil : ZeroL P []
 | cons {T : TypeId} {ps : List (Nat × (Nat → Value))} {l : List (TypeId × List (Nat × (Nat → Value)))} (h : zeroIs P T ps) (t : ZeroL P l) : ZeroL P ((T, ps) :: l)
theorem ZeroL.mem {P : Program} {l : List (TypeId × List (Nat × (Nat → Value)))} (h : ZeroL P l) : ∀ q ∈ l, zeroIs P q.1 q.2 := by
 induction h with
 | nil => intro q hq; cases hq
 | cons h t ih =>
   intro q hq
   rcases List.mem_cons.1 hq with rfl | hq
   · exact h
   · exact ih q hq
end regions
end Go.LW
namespace Go.LW
set_option linter.unusedSimpArgs false
set_option linter.unusedVariables false
set_option linter.unusedSectionVars false
open Go Go.RowKit
structure EL where
 (α β : Type)
 sz : Nat
 E : β → α → List (Nat × (Nat → Value))
 val : β → α → Value
 ck : Value → Prop
 side : List Rg → β → α → Prop
 hlen : ∀ b x, (catL (E b x)).length = sz
 hval : ∀ b x, cellsL (val b x) = catL (E b x)
 one : ∀ b x v, v ∈ catL (E b x) → v.oneCell' = true
 ckE : ∀ b x v, v ∈ catL (E b x) → ck v
 mono : ∀ C L b x, side L b x → side (C ++ L) b x
def EL.cells (D : EL) (L : List Rg) (G : Nat → Value) (x : D.α) : Prop := ∃ b, D.side L b x ∧ ∀ k v, (catL (D.E b x))[k]? = some v → G k = v
theorem EL.cells.app {D : EL} {L : List Rg} {G : Nat → Value} {x : D.α} (h : D.cells L G x) (C : List Rg) : D.cells (C ++ L) G x := by
 obtain ⟨b, h1, h2⟩ := h
 exact ⟨b, D.mono C L b x h1, h2⟩
theorem EL.cells.congr {D : EL} {L : List Rg} {G G' : Nat → Value} {x : D.α} (h : D.cells L G x) (hG : ∀ k, k < D.sz → G k = G' k) : D.cells L G' x := by
 obtain ⟨b, h1, h2⟩ := h
 refine ⟨b, h1, fun k v hv => ?_⟩
 rw [← hG k (by rw [← D.hlen b x]; exact (List.getElem?_eq_some_iff.1 hv).1)]
 exact h2 k v hv
theorem EL.cells.one {D : EL} {L : List Rg} {G : Nat → Value} {x : D.α} (h : D.cells L G x) {k : Nat} (hk : k < D.sz) : (G k).oneCell' = true := by
 obtain ⟨b, h1, h2⟩ := h
 have hk' : k < (catL (D.E b x)).length := by rw [D.hlen]; exact hk
 rw [h2 k _ (List.getElem?_eq_getElem hk')]
 exact D.one b x _ (List.getElem_mem hk')
theorem EL.cells.ck {D : EL} {L : List Rg} {G : Nat → Value} {x : D.α} (h : D.cells L G x) {k : Nat} (hk : k < D.sz) : D.ck (G k) := by
 obtain ⟨b, h1, h2⟩ := h
 have hk' : k < (catL (D.E b x)).length := by rw [D.hlen]; exact hk
 rw [h2 k _ (List.getElem?_eq_getElem hk')]
 exact D.ckE b x _ (List.getElem_mem hk')
def LV (D : EL) (L : List Rg) (i : Nat) (a : Option Addr) (len cc : Nat) (X : List D.α) : Prop :=
 X.length = len ∧ len ≤ cc ∧ (0 < len → ∃ (offs ms js os : Nat) (ps : Option Nat) (G : Nat → Value) (rw : Bool), L[i]? = some ⟨ps, offs, ms, G, rw⟩ ∧ SlV a ps os len ∧ os = offs + js ∧ js + len * D.sz ≤ ms ∧ ∀ j x, X[j]? = some x → D.cells L (fun k => G (js + j * D.sz + k)) x)
structure LO (D : EL) (L : List Rg) (a : Option Addr) (pb : Option Nat) (len cap : Nat) (F : Nat → Value) (X : List D.α) : Prop where
 ho : OwnSl a pb cap
 hc : len ≤ cap
 hl : X.length = len
 hF : ∀ j x, X[j]? = some x → D.cells L (fun k => F (j * D.sz + k)) x
 hK : ∀ q, q < cap * D.sz → D.ck (F q)
theorem LV.hl {D : EL} {L : List Rg} {i : Nat} {a : Option Addr} {len cc : Nat} {X : List D.α} (h : LV D L i a len cc X) : X.length = len := h.1
theorem LV.le {D : EL} {L : List Rg} {i : Nat} {a : Option Addr} {len cc : Nat} {X : List D.α} (h : LV D L i a len cc X) : len ≤ cc := h.2.1
theorem LV.nil {D : EL} {L : List Rg} (i : Nat) {a : Option Addr} {cc : Nat} : LV D L i a 0 cc [] := ⟨rfl, Nat.zero_le _, fun h => absurd h (Nat.lt_irrefl 0)⟩
theorem LV.app {D : EL} {L : List Rg} {i : Nat} {a : Option Addr} {len cc : Nat} {X : List D.α} (h : LV D L i a len cc X) (C : List Rg) : LV D (C ++ L) (i + C.length) a len cc X := by
 obtain ⟨hl, hc, h⟩ := h
 refine ⟨hl, hc, fun hn => ?_⟩
 obtain ⟨offs, ms, js, os, ps, G, rw, h1, h2, h3, h4, h5⟩ := h hn
 exact ⟨offs, ms, js, os, ps, G, rw, by rw [List.getElem?_append_right (by omega), Nat.add_sub_cancel]; exact h1, h2, h3, h4, fun j x hx => (h5 j x hx).app C⟩
def EL.flat (D : EL) : Prop := ∀ L L' b x, D.side L b x → D.side L' b x
theorem LV.move {D : EL} (hf : D.flat) {L L' : List Rg} {i i' : Nat} {a : Option Addr} {len cc : Nat} {X : List D.α} (h : LV D L i a len cc X) {r : Rg} (h1 : L[i]? = some r) (h2 : L'[i']? = some r) : LV D L' i' a len cc X := by
 obtain ⟨hl, hc, h⟩ := h
 refine ⟨hl, hc, fun hn => ?_⟩
 obtain ⟨offs, ms, js, os, ps, G, rw, g1, g2, g3, g4, g5⟩ := h hn
 rw [h1] at g1
 obtain rfl := Option.some.inj g1
 exact ⟨offs, ms, js, os, ps, G, rw, h2, g2, g3, g4, fun j x hx => by
   obtain ⟨b, k1, k2⟩ := g5 j x hx
   exact ⟨b, hf _ _ _ _ k1, k2⟩⟩
theorem LO.lv {D : EL} {L0 L : List Rg} {a : Option Addr} {pb : Option Nat} {len cap : Nat} {F : Nat → Value} {X : List D.α} (h : LO D L0 a pb len cap F X) (hs : ∀ b x, D.side L0 b x → D.side L b x) (k : Nat) (hL : L[k]? = some ⟨pb, 0, cap * D.sz, F, true⟩) : LV D L k a len cap X := by
 refine ⟨h.hl, h.hc, fun _ => ⟨0, cap * D.sz, 0, 0, pb, F, true, hL, h.ho.sl h.hc, rfl, by rw [Nat.zero_add]; exact Nat.mul_le_mul_right _ h.hc, fun j x hx => ?_⟩⟩
 obtain ⟨b, h1, h2⟩ := h.hF j x hx
 exact ⟨b, hs b x h1, fun k v hv => by rw [Nat.zero_add]; exact h2 k v hv⟩
theorem LO.nil {D : EL} {L : List Rg} {F : Nat → Value} : LO D L none none 0 0 F [] := ⟨OwnSl.nil, Nat.le_refl _, rfl, fun j x hx => by simp at hx, fun q hq => absurd hq (by simp)⟩
theorem LO.re {D : EL} {L0 L : List Rg} {a : Option Addr} {pb : Option Nat} {len cap : Nat} {F : Nat → Value} {X : List D.α} (h : LO D L0 a pb len cap F X) (hs : ∀ b x, D.side L0 b x → D.side L b x) : LO D L a pb len cap F X :=
 ⟨h.ho, h.hc, h.hl, fun j x hx => by
   obtain ⟨b, h1, h2⟩ := h.hF j x hx
   exact ⟨b, hs b x h1, h2⟩, h.hK⟩
theorem getD_of {α : Type} {X : List α} {j : Nat} (hj : j < X.length) (dflt : α) : X[j]? = some (X.getD j dflt) := by
 rw [List.getD_eq_getElem?_getD, List.getElem?_eq_getElem hj]; rfl
section keep
variable {P : Program} {B : Nat} {w0 : Base} {w : World} {L : List Rg}
theorem St.emptied (h : St B w0 L w) {k : Nat} {r : Rg} (hk : k < L.length) (f : Nat → Value) : St B w0 (L.set k r) w → St B w0 (r :: L.set k ⟨none, 0, 0, f, true⟩) w := fun h1 => by
 have h2 := h1.nilE f
 refine h2.perm ?_
 have e1 : ∀ x : Rg, L.set k x = L.take k ++ x :: L.drop (k + 1) := fun x => List.set_eq_take_append_cons_drop.trans (by rw [if_pos hk])
 rw [e1, e1]
 have p1 : (L.take k ++ r :: L.drop (k + 1)).Perm (r :: (L.take k ++ L.drop (k + 1))) := List.perm_middle
 have p2 : (L.take k ++ (⟨none, 0, 0, f, true⟩ : Rg) :: L.drop (k + 1)).Perm (⟨none, 0, 0, f, true⟩ :: (L.take k ++ L.drop (k + 1))) := List.perm_middle
 exact ((p1.cons _).trans (List.Perm.swap _ _ _)).trans (p2.symm.cons _)
theorem St.instead' {r r' : Rg} {k : Nat} (hk : k < L.length) (h : St B w0 (r :: L.set k r') w) : St B w0 (L.set k r) w := by
 have h1 := h.instead (k := k) (by simpa using hk)
 rw [List.set_set] at h1
 exact h1
theorem run_appendK (hst : St B w0 L w) {t t' ty : TypeId} {s by' len cap n k : Nat} {z : Value} {zf : Nat → Value} {a : Option Addr} {pb : Option Nat} {F g : Nat → Value} {y : Value} (he : elB P t s by' z) (hzs : z.cells.size = s) (hzf : ∀ q, q < s → z.cells[q]! = zf q) (hL : L[k]? = some ⟨pb, 0, cap * s, F, true⟩) (ho : OwnSl a pb cap)
   (hsrc : Src P s t' y n ((List.range (n * s)).map g) w) (hlc : len ≤ cap) (hb : (len + n) * by' ≤ 140737488355328) (h63 : len + n < 9223372036854775808) :
   ∃ w' a' pb' cap' ip r, (Builtin.append_ #[t, t'] ty #[.slice a len cap, y]).run P w = .ok (.slice a' (len + n) cap') w' ∧ OwnSl a' pb' cap' ∧ (len + n ≤ cap' ∧ cap ≤ cap') ∧
     St B w0 (⟨pb', 0, cap' * s, fun q => if ip = true ∨ q < (len + n) * s then spl F (len * s) (n * s) g q else zf (q % s), true⟩ :: L.set k r) w' ∧
     ((ip = true ∧ a' = a ∧ pb' = pb ∧ cap' = cap) ∨ (ip = false ∧ r = ⟨pb, 0, cap * s, F, true⟩)) := by
 obtain ⟨el, i, hu, hi, hs1, hby, hz⟩ := he
 subst hs1
 have hk : k < L.length := (List.getElem?_eq_some_iff.1 hL).1
 have hfun : (fun q => if true = true ∨ q < (len + n) * i.size then spl F (len * i.size) (n * i.size) g q else zf (q % i.size)) = spl F (len * i.size) (n * i.size) g := by funext q; rw [if_pos (.inl rfl)]
 by_cases hroom : len + n ≤ cap
 · by_cases h0 : n = 0
   · subst h0
     refine ⟨w, a, pb, cap, true, ⟨none, 0, 0, fun _ => undef, true⟩, run_append_nothing w t t' ty el i hu hi a len cap hlc y (by simpa using hsrc), ho, ⟨hroom, Nat.le_refl _⟩, ?_, .inl ⟨rfl, rfl, rfl, rfl⟩⟩
     rw [hfun]
     have h1 : spl F (len * i.size) (0 * i.size) g = F := by rw [Nat.zero_mul]; funext q; rw [spl_out _ _ _ _ _ (by omega)]
     rw [h1]
     refine St.emptied hst hk _ ?_
     have h2 : L.set k ⟨pb, 0, cap * i.size, F, true⟩ = L := by
       obtain ⟨hk, hLk⟩ := List.getElem?_eq_some_iff.1 hL
       rw [← hLk]; exact List.set_getElem_self hk
     rw [h2]; exact hst
   · obtain ⟨b, hpb, ha⟩ : ∃ b, pb = some b ∧ a = some ⟨b, 0, none⟩ := by
       rcases ho with ⟨h1, _⟩ | h1
       · omega
       · exact h1
     subst hpb ha
     have hfit : len * i.size + n * i.size ≤ cap * i.size := by rw [← Nat.add_mul]; exact Nat.mul_le_mul_right _ hroom
     have hth := hst.thereR hL hfit
     refine ⟨_, some ⟨b, 0, none⟩, some b, cap, true, ⟨none, 0, 0, fun _ => undef, true⟩, run_append_room_src w t t' ty el i hu hi b 0 len cap y n _ hsrc hroom (fun j hj => (hth j (by simpa using hj)).1) (fun j hj => (hth j (by simpa using hj)).2), .inr ⟨b, rfl, rfl⟩, ⟨hroom, Nat.le_refl _⟩, ?_, .inl ⟨rfl, rfl, rfl, rfl⟩⟩
     rw [hfun]
     have h5 := hst.setRange (g := g) hL (n * i.size) hfit
     have h6 := h5.nilE (fun _ => undef)
     refine h6.perm ?_
     have e1 : ∀ x : Rg, L.set k x = L.take k ++ x :: L.drop (k + 1) := fun x => List.set_eq_take_append_cons_drop.trans (by rw [if_pos hk])
     rw [e1, e1]
     exact ((List.perm_middle.cons _).trans (List.Perm.swap _ _ _)).trans ((List.perm_middle (l₁ := L.take k) (a := (⟨none, 0, 0, fun _ => undef, true⟩ : Rg)) (l₂ := L.drop (k + 1))).symm.cons _)
 · have hcap := grownCap_ge w (len + n) cap el
   have hold : (Builtin.firstCells i.size len (.slice a len cap)).run P w.drew = .ok ((List.range (len * i.size)).map F).toArray w.drew := by
     by_cases h0 : len = 0
     · subst h0
       cases a with
       | none => simp [Builtin.firstCells]
       | some a => simp [Builtin.firstCells, loadCells]; rfl
     · obtain ⟨b, hpb, ha⟩ : ∃ b, pb = some b ∧ a = some ⟨b, 0, none⟩ := by
         rcases ho with ⟨h1, _⟩ | h1
         · omega
         · exact h1
       subst hpb ha
       simp only [Builtin.firstCells]
       refine run_loadCells w.drew ⟨b, 0, none⟩ (len * i.size) F (fun q hq => ?_)
       have hfit : len * i.size ≤ cap * i.size := Nat.mul_le_mul_right _ hlc
       obtain ⟨b', hp', hcell⟩ := hst.drew.mem hL q (show q < cap * i.size by omega)
       obtain rfl : b = b' := Option.some.inj hp'
       rw [Addr.add_mid]
       exact hcell
   have hfit := growslice_fits (need := len + n) (old := cap) (bytes := i.bytes) (by omega) (by rw [hby]; exact hb)
   have hr := run_append_grow_src (P := P) w t t' ty el i z hu hi hz a len cap _ hold y n _ hsrc (by omega) (by omega) hfit
   have hcm : (len + n) * i.size + (grownCap w (len + n) cap el - (len + n)) * i.size = grownCap w (len + n) cap el * i.size := by rw [← Nat.add_mul]; congr 1; omega
   have hln : (len + n) * i.size = len * i.size + n * i.size := Nat.add_mul _ _ _
   have hcat : (catL [(grownCap w (len + n) cap el * i.size, fun q => if false = true ∨ q < (len + n) * i.size then spl F (len * i.size) (n * i.size) g q else zf (q % i.size))]).toArray = ((List.range (len * i.size)).map F ++ (List.range (n * i.size)).map g).toArray ++ Builtin.zeroCells z.cells (grownCap w (len + n) cap el - (len + n)) := by
     apply Array.ext'
     apply List.ext_getElem?
     intro q
     rw [catL_one]
     have hzc : (Builtin.zeroCells z.cells (grownCap w (len + n) cap el - (len + n))).toList = (List.range ((grownCap w (len + n) cap el - (len + n)) * i.size)).map fun x => zf (x % i.size) := by
       unfold Builtin.zeroCells
       rw [hzs]
       simp only [Array.toList_map, Array.toList_range]
       refine List.map_congr_left fun x hx => ?_
       have hx := List.mem_range.1 hx
       have hpos : 0 < i.size := by
         rcases Nat.eq_zero_or_pos i.size with h0 | h0
         · rw [h0] at hx; omega
         · exact h0
       exact hzf _ (Nat.mod_lt _ hpos)
     simp only [Array.toList_append, hzc]
     by_cases h1 : q < len * i.size
     · rw [List.append_assoc, List.getElem?_append_left (by simpa using h1)]
       simp [show q < grownCap w (len + n) cap el * i.size by omega, h1, show q < (len + n) * i.size by omega, spl, show ¬ (len * i.size ≤ q ∧ q < len * i.size + n * i.size) by omega]
     · rw [List.append_assoc, List.getElem?_append_right (by simpa using h1)]
       by_cases h2 : q < (len + n) * i.size
       · rw [List.getElem?_append_left (by simp; omega)]
         simp [show q < grownCap w (len + n) cap el * i.size by omega, h2, spl, show len * i.size ≤ q ∧ q < len * i.size + n * i.size by omega, show q - len * i.size < n * i.size by omega]
       · rw [List.getElem?_append_right (by simp; omega)]
         by_cases h3 : q < grownCap w (len + n) cap el * i.size
         · have h4 : (q - len * i.size - n * i.size) % i.size = q % i.size := by
             have h5 : q = (q - len * i.size - n * i.size) + i.size * (len + n) := by rw [Nat.mul_comm i.size, hln]; omega
             conv => rhs; rw [h5]
             rw [Nat.add_mul_mod_self_left]
           simp [h3, h2, show q - len * i.size - n * i.size < (grownCap w (len + n) cap el - (len + n)) * i.size by omega, h4]
         · simp [h3, show ¬ (q - len * i.size - n * i.size < (grownCap w (len + n) cap el - (len + n)) * i.size) by omega]
   rw [← hcat] at hr
   refine ⟨_, some ⟨w.heap.size, 0, none⟩, some w.heap.size, grownCap w (len + n) cap el, false, ⟨pb, 0, cap * i.size, F, true⟩, hr, .inr ⟨_, rfl, rfl⟩, ⟨hcap, by omega⟩, ?_, .inr ⟨rfl, rfl⟩⟩
   have := hst.drew.alloc [(grownCap w (len + n) cap el * i.size, fun q => if false = true ∨ q < (len + n) * i.size then spl F (len * i.size) (n * i.size) g q else zf (q % i.size))] el
   have h2 : L.set k ⟨pb, 0, cap * i.size, F, true⟩ = L := by
     obtain ⟨hk, hLk⟩ := List.getElem?_eq_some_iff.1 hL
     rw [← hLk]; exact List.set_getElem_self hk
   rw [h2]
   exact this
end keep
section run
variable {P : Program} {B : Nat} {w0 : Base} {w : World} {L : List Rg}
theorem run_firstCellsS {a : Option Addr} {pb : Option Nat} {s o len cap cnt off m j : Nat} {f : Nat → Value} {rw : Bool} (hst : St B w0 L w) {k : Nat} (hL : L[k]? = some ⟨pb, off, m, f, rw⟩) (hs : SlV a pb o len) (ho : o = off + j) (hc : cnt ≤ len) (hj : j + cnt * s ≤ m) :
   (Builtin.firstCells s cnt (.slice a len cap)).run P w = .ok ((List.range (cnt * s)).map fun q => f (j + q)).toArray w := by
 by_cases h0 : cnt = 0
 · subst h0
   cases a with
   | none => simp [Builtin.firstCells]
   | some a => simp [Builtin.firstCells, loadCells]; rfl
 · obtain ⟨b, hp, ha⟩ := hs (by omega)
   subst ha
   simp only [Builtin.firstCells]
   refine run_loadCells w ⟨b, o, none⟩ (cnt * s) (fun q => f (j + q)) (fun q hq => ?_)
   obtain ⟨b', hp', hcell⟩ := hst.mem hL (j + q) (show j + q < m by omega)
   simp only at hp'
   obtain rfl : b = b' := by rw [hp] at hp'; exact Option.some.inj hp'
   rw [Addr.add_mid, ho, Nat.add_assoc, hcell]
theorem run_appendS' (hst : St B w0 L w) {t t' ty : TypeId} {s by' len cap n k : Nat} {z : Value} {zf : Nat → Value} {a : Option Addr} {pb : Option Nat} {F g : Nat → Value} {y : Value} (he : elB P t s by' z) (hzs : z.cells.size = s) (hzf : ∀ q, q < s → z.cells[q]! = zf q) (hL : L[k]? = some ⟨pb, 0, cap * s, F, true⟩) (ho : OwnSl a pb cap)
   (hsrc : Src P s t' y n ((List.range (n * s)).map g) w) (hlc : len ≤ cap) (hb : (len + n) * by' ≤ 140737488355328) (h63 : len + n < 9223372036854775808) :
   ∃ w' a' pb' cap' ip, (Builtin.append_ #[t, t'] ty #[.slice a len cap, y]).run P w = .ok (.slice a' (len + n) cap') w' ∧ OwnSl a' pb' cap' ∧ len + n ≤ cap' ∧ St B w0 (L.set k ⟨pb', 0, cap' * s, fun q => if ip = true ∨ q < (len + n) * s then spl F (len * s) (n * s) g q else zf (q % s), true⟩) w' ∧ (ip = true → cap' ≤ cap) := by
 have hk : k < L.length := (List.getElem?_eq_some_iff.1 hL).1
 obtain ⟨w', a', pb', cap', ip, r, h1, h2, h3, h4, h5⟩ := run_appendK (P := P) (ty := ty) hst he hzs hzf hL ho hsrc hlc hb h63
 refine ⟨w', a', pb', cap', ip, h1, h2, h3.1, St.instead' hk h4, fun hip => ?_⟩
 rcases h5 with ⟨_, _, _, h5⟩ | ⟨h5, _⟩
 · omega
 · rw [h5] at hip; cases hip
theorem Src.ofLV {D : EL} (hst : St B w0 L w) {t' e' : TypeId} (hk : P.underlying t' = some (.slice e')) {a : Option Addr} {ix len cap : Nat} {X : List D.α} (h : LV D L ix a len cap X) :
   ∃ g : Nat → Value, Src P D.sz t' (.slice a len cap) len ((List.range (len * D.sz)).map g) w ∧ ∀ j x, X[j]? = some x → D.cells L (fun k => g (j * D.sz + k)) x := by
 obtain ⟨hl, hc, h⟩ := h
 by_cases hn : 0 < len
 · obtain ⟨offs, ms, js, os, ps, G, rw, h1, h2, h3, h4, h5⟩ := h hn
   refine ⟨fun q => G (js + q), ⟨.inl ⟨e', hk⟩, fun _ => rfl, run_firstCellsS hst h1 h2 h3 (Nat.le_refl _) h4, run_firstCellsS hst.drew h1 h2 h3 (Nat.le_refl _) h4, by simp, fun u hu => ?_⟩, fun j x hx => ?_⟩
   · obtain ⟨q, hq, rfl⟩ := List.mem_map.1 hu
     have hq := List.mem_range.1 hq
     have hs : 0 < D.sz := by
       rcases Nat.eq_zero_or_pos D.sz with h0 | h0
       · rw [h0, Nat.mul_zero] at hq; omega
       · exact h0
     have hj : q / D.sz < X.length := by rw [hl]; exact (Nat.div_lt_iff_lt_mul hs).2 hq
     have := (h5 _ _ (List.getElem?_eq_getElem hj)).one (Nat.mod_lt q hs)
     have e : js + q / D.sz * D.sz + q % D.sz = js + q := by rw [Nat.add_assoc, Nat.div_add_mod']
     rw [e] at this
     exact this
   · refine (h5 j x hx).congr fun k _ => ?_
     show G _ = G _
     congr 1; omega
 · obtain rfl : len = 0 := by omega
   refine ⟨fun _ => undef, ⟨.inl ⟨e', hk⟩, fun _ => rfl, ?_, ?_, by simp, by simp⟩, fun j x hx => ?_⟩
   · cases a <;> simp [Builtin.firstCells, loadCells]
     all_goals rfl
   · cases a <;> simp [Builtin.firstCells, loadCells]
     all_goals rfl
   · have := (List.getElem?_eq_some_iff.1 hx).1
     omega
end run
section step
variable {P : Program} {n : Nat} {K : Pend → Env → World → Prop} {l : List It} {O O' : Pend} {e : Env} {w : World} {i ty : Nat} {d : Tmp} {pos : String} {aft : Array Edge} {gd g : Option (Nat × Bool)}
variable {B : Nat} {w0 : Base} {L L' : List Rg} {D : EL}
theorem Plan.idxLV {t : TypeId} {x y : Operand} {k : IntKind} {ix len cc j sz : Nat} {a : Option Addr} {X : List D.α} (hX : LV D L ix a len cc X) (ha : slB P t sz = true) (hg : wantedE n e g = true) (hx : ev n e x = .slice a len cc) (hy : ev n e y = .int k (j : Int)) (hj : j < len)
   (h : Plan P n K l O (upd e d (.pointer (a.map fun z => ⟨z.block, z.off + j * sz, none⟩))) w) : Plan P n K (⟨i, true, ⟨some d, .indexAddr t x y, ty, pos, aft, gd⟩, g⟩ :: l) O e w := by
 obtain ⟨hl, hc, hX⟩ := hX
 obtain ⟨offs, ms, js, os, ps, G, rw, h1, h2, h3⟩ := hX (by omega)
 obtain ⟨b, hb1, hb2⟩ := h2 (by omega)
 subst hb2
 exact Plan.idxSl ha hg hx hy hj h
theorem Plan.loadLV1 (hst : St B w0 L w) {t : TypeId} {x : Operand} {ix len cc j : Nat} {a : Option Addr} {X : List D.α} (dflt : D.α) (v : D.β → D.α → Value) (hX : LV D L ix a len cc X) (hg : wantedE n e g = true) (hx : ev n e x = .pointer (a.map fun z => ⟨z.block, z.off + j * 1, none⟩)) (hj : j < len) (hsz : D.sz = 1) (hv : ∀ b y, (catL (D.E b y))[0]? = some (v b y)) (ht : scalarT P t = true)
   (h : ∀ b r, D.side L b (X.getD j dflt) → L[ix]? = some r → Plan P n K l ((i, r.at) :: O) (upd e d (v b (X.getD j dflt))) w) : Plan P n K (⟨i, true, ⟨some d, .load t x, ty, pos, aft, gd⟩, g⟩ :: l) O e w := by
 obtain ⟨hl, hc, hX⟩ := hX
 obtain ⟨offs, ms, js, os, ps, G, rw, h1, h2, h3, h4, h5⟩ := hX (by omega)
 obtain ⟨b, hb1, hb2⟩ := h2 (by omega)
 subst hb2 hb1
 obtain ⟨bb, s1, s2⟩ := h5 j _ (getD_of (by omega) dflt)
 have hx' : ev n e x = .pointer (some ⟨b, offs + (js + j), none⟩) := by rw [hx, ← Nat.add_assoc, ← h3, Nat.mul_one]; rfl
 have h7 := h bb _ s1 h1
 have e1 : G (js + j * D.sz + 0) = _ := s2 0 _ (hv bb _)
 rw [hsz, Nat.mul_one, Nat.add_zero] at e1
 rw [hsz] at h4
 refine Plan.load1 hst ix hg hx' h1 (by omega) ht ?_
 rw [e1]
 exact h7
theorem LO.set {a : Option Addr} {pb : Option Nat} {len cap j : Nat} {F f' : Nat → Value} {X : List D.α} {y : D.α} (hO : LO D L a pb len cap F X) (hj : j < len) (hy : D.cells L f' y) : LO D L a pb len cap (spl F (j * D.sz) D.sz f') (X.set j y) := by
 refine ⟨hO.ho, hO.hc, by rw [List.length_set]; exact hO.hl, fun q x hx => ?_, fun q hq => ?_⟩
 rotate_left
 · by_cases h : j * D.sz ≤ q ∧ q < j * D.sz + D.sz
   · rw [spl_in _ _ _ _ _ h]; exact hy.ck (by omega)
   · rw [spl_out _ _ _ _ _ h]; exact hO.hK q hq
 by_cases hq : q = j
 · subst hq
   rw [List.getElem?_set_self (by rw [hO.hl]; exact hj)] at hx
   obtain rfl := Option.some.inj hx
   refine hy.congr fun k hk => ?_
   rw [spl_in _ _ _ _ _ ⟨by omega, by omega⟩]
   congr 1; omega
 · rw [List.getElem?_set_ne (Ne.symm hq)] at hx
   refine (hO.hF q x hx).congr fun k hk => ?_
   rw [spl_out _ _ _ _ _ ?_]
   rintro ⟨h1, h2⟩
   rcases Nat.lt_or_gt_of_ne hq with h3 | h3
   · have : (q + 1) * D.sz ≤ j * D.sz := Nat.mul_le_mul_right _ h3
     rw [Nat.succ_mul] at this
     omega
   · have : (j + 1) * D.sz ≤ q * D.sz := Nat.mul_le_mul_right _ h3
     rw [Nat.succ_mul] at this
     omega
theorem rows_ck {L : List Rg} {X : List D.α} {g : Nat → Value} {m : Nat} (hm : X.length = m) (hg : ∀ j x, X[j]? = some x → D.cells L (fun k => g (j * D.sz + k)) x) {q : Nat} (hq : q < m * D.sz) : D.ck (g q) := by
 have hs : 0 < D.sz := by
   rcases Nat.eq_zero_or_pos D.sz with h0 | h0
   · rw [h0, Nat.mul_zero] at hq; omega
   · exact h0
 have hj : q / D.sz < X.length := by rw [hm]; exact (Nat.div_lt_iff_lt_mul hs).2 hq
 have := (hg _ _ (List.getElem?_eq_getElem hj)).ck (Nat.mod_lt q hs)
 rw [Nat.div_add_mod'] at this
 exact this
theorem app_ck {L0 L : List Rg} {len cap m cap' : Nat} {a : Option Addr} {pb : Option Nat} {F gg : Nat → Value} {X Y : List D.α} {z : Value} {bb : D.β} {zx : D.α} {ip : Bool} (hO : LO D L0 a pb len cap F X) (hz : z.cells.toList = catL (D.E bb zx)) (hYl : Y.length = m) (hgg : ∀ j x, Y[j]? = some x → D.cells L (fun k => gg (j * D.sz + k)) x) (hip : ip = true → cap' ≤ cap) (q : Nat) (hq : q < cap' * D.sz) :
   D.ck (if ip = true ∨ q < (len + m) * D.sz then spl F (len * D.sz) (m * D.sz) gg q else z.cells[q % D.sz]!) := by
 by_cases h1 : ip = true ∨ q < (len + m) * D.sz
 · rw [if_pos h1]
   by_cases h2 : len * D.sz ≤ q ∧ q < len * D.sz + m * D.sz
   · rw [spl_in _ _ _ _ _ h2]; exact rows_ck hYl hgg (by omega)
   · rw [spl_out _ _ _ _ _ h2]
     refine hO.hK q ?_
     rcases h1 with h1 | h1
     · exact Nat.lt_of_lt_of_le hq (Nat.mul_le_mul_right _ (hip h1))
     · rw [Nat.add_mul] at h1
       have : len * D.sz ≤ cap * D.sz := Nat.mul_le_mul_right _ hO.hc
       omega
 · rw [if_neg h1]
   have hs : 0 < D.sz := by
     rcases Nat.eq_zero_or_pos D.sz with h0 | h0
     · rw [h0, Nat.mul_zero] at hq; omega
     · exact h0
   have hzl : z.cells.size = D.sz := by rw [← Array.length_toList, hz, D.hlen]
   have hlt : q % D.sz < z.cells.size := by rw [hzl]; exact Nat.mod_lt _ hs
   refine D.ckE bb zx _ ?_
   rw [← hz, Array.getElem!_eq_getD, Array.getD_eq_getD_getElem?, Array.getElem?_eq_getElem hlt]
   exact Array.getElem_mem_toList hlt
theorem Plan.appendLO (hst : St B w0 L w) {L0 : List Rg} {t t' el' : TypeId} {x y : Operand} {len cap m cy iy sz by' : Nat} {a ay : Option Addr} {pb : Option Nat} {F : Nat → Value} {X Y : List D.α} {z : Value} (bb : D.β) (zx : D.α) (k : Nat) (hO : LO D L0 a pb len cap F X) (hsz : D.sz = sz) (he : elD P t = some (sz, by', some z)) (hzc : z.cells.toList = catL (D.E bb zx)) (ht' : P.underlying t' = some (.slice el')) (hg : wantedE n e g = true)
   (hx : ev n e x = .slice a len cap) (hy : ev n e y = .slice ay m cy) (hL : L[k]? = some ⟨pb, 0, cap * sz, F, true⟩) (hY : LV D L iy ay m cy Y) (hs0 : ∀ b x, D.side L b x → D.side L0 b x) (hb : (len + m) * by' ≤ 140737488355328) (h63 : len + m < 9223372036854775808)
   (hw : ∀ r, EffO aft O (L.set k r) O')
   (h : ∀ a' pb' cap' (F' : Nat → Value) w', LO D L0 a' pb' (X ++ Y).length cap' F' (X ++ Y) → St B w0 (L.set k ⟨pb', 0, cap' * sz, F', true⟩) w' → Plan P n K l O' (updO e (some d) (.slice a' (X ++ Y).length cap')) w') :
   Plan P n K (⟨i, false, ⟨some d, .call ⟨.builtin .append, #[x, y], #[t, t']⟩, ty, pos, aft, gd⟩, g⟩ :: l) O e w := by
 subst hsz
 have hzs : z.cells.size = D.sz := by rw [← Array.length_toList, hzc, D.hlen]
 obtain ⟨gg, hsrc, hgg⟩ := Src.ofLV hst ht' hY
 obtain ⟨w', a', pb', cap', ip, hr, ho', hcap, hst', hipc⟩ := run_appendS' (P := P) (ty := ty) (zf := fun q => z.cells[q]!) hst (elB_of he) hzs (fun q hq => rfl) hL hO.ho hsrc hO.hc hb h63
 have hl : (X ++ Y).length = len + m := by rw [List.length_append, hO.hl, hY.hl]
 have hLO : LO D L0 a' pb' (len + m) cap' (fun q => if ip = true ∨ q < (len + m) * D.sz then spl F (len * D.sz) (m * D.sz) gg q else z.cells[q % D.sz]!) (X ++ Y) := by
   refine ⟨ho', hcap, hl, fun j x hx => ?_, app_ck hO hzc hY.hl hgg hipc⟩
   have hj : j < len + m := by rw [← hl]; exact (List.getElem?_eq_some_iff.1 hx).1
   have hin : ∀ k, k < D.sz → j * D.sz + k < (len + m) * D.sz := fun k hk => by
     have : (j + 1) * D.sz ≤ (len + m) * D.sz := Nat.mul_le_mul_right _ hj
     rw [Nat.succ_mul] at this
     omega
   by_cases h1 : j < X.length
   · rw [List.getElem?_append_left h1] at hx
     refine (hO.hF j x hx).congr fun k hk => ?_
     rw [if_pos (.inr (hin k hk)), spl_out]
     rintro ⟨h2, _⟩
     have : (j + 1) * D.sz ≤ len * D.sz := Nat.mul_le_mul_right _ (by rw [hO.hl] at h1; exact h1)
     rw [Nat.succ_mul] at this
     omega
   · rw [List.getElem?_append_right (by omega)] at hx
     obtain ⟨b, s1, s2⟩ := hgg _ x hx
     refine EL.cells.congr ⟨b, hs0 b x s1, s2⟩ fun k hk => ?_
     have e1 : j * D.sz = len * D.sz + (j - X.length) * D.sz := by rw [← Nat.add_mul, hO.hl]; congr 1; rw [hO.hl] at h1; omega
     have e2 : (j - X.length) * D.sz + k < m * D.sz := by
       have := hin k hk
       rw [Nat.add_mul] at this
       omega
     rw [if_pos (.inr (hin k hk)), spl_in _ _ _ _ _ ⟨by omega, by omega⟩]
     congr 1; omega
 rw [← hl] at hr hLO
 refine Plan.effS hg (w' := w') (v := .slice a' (X ++ Y).length cap') (run_blt2 fun c => ?_) hst' (hw _) fun w' hw' => h a' pb' cap' _ w' ?_ hw'
 · rw [hx, hy]
   simp only [builtin, Sem.run_bind, hr]
   rfl
 · rw [hl] at hLO ⊢; exact hLO
def idxd (D : EL) : Nat → List (D.β × D.α) → List (Nat × Value)
 | _, [] => []
 | q, p :: xs => (q, D.val p.1 p.2) :: idxd D (q + 1) xs
theorem fill_rows : ∀ (xs : List (D.β × D.α)) (q : Nat) (A C : List Value), A.length = q * D.sz → C.length = xs.length * D.sz → fillL (fun i => some (i * D.sz, D.sz)) (A ++ C) (idxd D q xs) = some (A ++ xs.flatMap fun p => catL (D.E p.1 p.2))
 | [], q, A, C, _, hC => by
   have : C = [] := List.length_eq_zero_iff.1 (by simpa using hC)
   subst this
   simp [idxd, fillL]
 | p :: xs, q, A, C, hA, hC => by
   have hC1 : C.length = D.sz + xs.length * D.sz := by rw [hC, List.length_cons, Nat.succ_mul, Nat.add_comm]
   have e1 : A ++ C = A ++ C.take D.sz ++ C.drop D.sz := by rw [List.append_assoc, List.take_append_drop]
   have hz : (C.take D.sz).length = D.sz := by rw [List.length_take]; omega
   show fillL _ (A ++ C) ((q, D.val p.1 p.2) :: idxd D (q + 1) xs) = _
   rw [e1, fillStep (A := A) (Z := C.take D.sz) (C := C.drop D.sz) (Y := catL (D.E p.1 p.2)) (by rw [hA, hz]) (by rw [hz]; exact D.hlen _ _) (D.hval _ _)]
   rw [fill_rows xs (q + 1) (A ++ catL (D.E p.1 p.2)) (C.drop D.sz) (by rw [List.length_append, hA, D.hlen, Nat.succ_mul]) (by rw [List.length_drop]; omega)]
   rw [List.flatMap_cons, List.append_assoc]
theorem rows_at : ∀ (xs : List (D.β × D.α)) (j : Nat) (p : D.β × D.α) (k : Nat) (v : Value), xs[j]? = some p → (catL (D.E p.1 p.2))[k]? = some v → (xs.flatMap fun p => catL (D.E p.1 p.2))[j * D.sz + k]? = some v
 | q :: xs, 0, p, k, v, h, hv => by
   obtain rfl : q = p := by simpa using h
   rw [List.flatMap_cons, Nat.zero_mul, Nat.zero_add, List.getElem?_append_left (List.getElem?_eq_some_iff.1 hv).1]
   exact hv
 | q :: xs, j + 1, p, k, v, h, hv => by
   have ih := rows_at xs j p k v (by simpa using h) hv
   rw [List.flatMap_cons, List.getElem?_append_right (by rw [D.hlen, Nat.succ_mul]; omega), D.hlen, Nat.succ_mul, show j * D.sz + D.sz + k - D.sz = j * D.sz + k by omega]
   exact ih
theorem rows_length : ∀ xs : List (D.β × D.α), (xs.flatMap fun p => catL (D.E p.1 p.2)).length = xs.length * D.sz
 | [] => by simp
 | q :: xs => by rw [List.flatMap_cons, List.length_append, D.hlen, rows_length xs, List.length_cons, Nat.succ_mul, Nat.add_comm]
theorem Plan.buildLO (hst : St B w0 L w) {t el : TypeId} {len sz : Nat} {parts : Array (Nat × Operand)} {z : Value} (xs : List (D.β × D.α)) (hu : P.underlying t = some (.slice el)) (hs : szT P el sz = true) (hz : (P.info? el).bind (·.zero) = some z)
   (hl : 0 < len * sz) (hl2 : len * sz ≤ 16777216) (hg : wantedE n e g = true) (hsz : D.sz = sz) (hXl : xs.length = len)
   (hv : parts.toList.map (fun p => (p.1, ev n e p.2)) = idxd D 0 xs) (hX : ∀ p ∈ xs, D.side L p.1 p.2) (hO : EffO aft O L O')
   (h : ∀ b w' F, B ≤ b → LO D L (some ⟨b, 0, none⟩) (some b) (xs.map (·.2)).length len F (xs.map (·.2)) → St B w0 (⟨some b, 0, len * sz, F, true⟩ :: L) w' → Plan P n K l O' (upd e d (.slice (some ⟨b, 0, none⟩) (xs.map (·.2)).length len)) w') :
   Plan P n K (⟨i, false, ⟨some d, .buildSlice t len parts, ty, pos, aft, gd⟩, g⟩ :: l) O e w := by
 subst hsz
 have hlen := rows_length xs
 rw [hXl] at hlen
 have hcat : catL [(len * D.sz, fun q => (xs.flatMap fun p => catL (D.E p.1 p.2)).getD q undef)] = xs.flatMap fun p => catL (D.E p.1 p.2) := by
   rw [catL_one]
   apply List.ext_getElem?
   intro q
   by_cases hq : q < len * D.sz
   · rw [List.getElem?_map, List.getElem?_range hq, getD_of (by omega) undef]; rfl
   · rw [List.getElem?_eq_none (by simpa using hq), List.getElem?_eq_none (by omega)]
 have hf : fillL (fun i => some (i * D.sz, D.sz)) ((List.range (len * D.sz)).map fun i => z.cells[i % z.cells.size]!) (idxd D 0 xs) = some (catL [(len * D.sz, fun q => (xs.flatMap fun p => catL (D.E p.1 p.2)).getD q undef)]) := by
   rw [hcat]
   have := fill_rows xs 0 [] ((List.range (len * D.sz)).map fun i => z.cells[i % z.cells.size]!) (by simp) (by simp [hXl])
   simpa using this
 refine Plan.buildSlice (ps := [(len * D.sz, fun q => (xs.flatMap fun p => catL (D.E p.1 p.2)).getD q undef)]) hst hu hs hz hl hl2 hg hv hf hO (fun b w' hb hst' => ?_)
 have hm : (xs.map (·.2)).length = len := by rw [List.length_map, hXl]
 have := h b w' (fun q => (xs.flatMap fun (p : D.β × D.α) => catL (D.E p.1 p.2)).getD q undef) hb ⟨.inr ⟨b, rfl, rfl⟩, by rw [hm]; exact Nat.le_refl _, rfl, fun j x hx => by
   rw [List.getElem?_map] at hx
   cases hq : xs[j]? with
   | none => rw [hq] at hx; cases hx
   | some p =>
     rw [hq] at hx
     obtain rfl : p.2 = x := by simpa using hx
     exact ⟨p.1, hX p (List.mem_of_getElem? hq), fun k v hv => by
       show List.getD _ _ _ = v
       rw [List.getD_eq_getElem?_getD, rows_at xs j p k v hq hv]; rfl⟩, fun q hq => by
   have hq2 : q < (xs.flatMap fun (p : D.β × D.α) => catL (D.E p.1 p.2)).length := by rw [hlen]; exact hq
   rw [List.getD_eq_getElem?_getD, List.getElem?_eq_getElem hq2]
   obtain ⟨p, _, hv⟩ := List.mem_flatMap.1 (List.getElem_mem hq2)
   exact D.ckE _ _ _ hv⟩ hst'
 rw [hm] at this
 exact this
end step
end Go.LW
