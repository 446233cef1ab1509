/-
  ENGINE X, PART 8 (own work): slices of elements of many cells: views, own ones; structs compared.
-/
import Derived.Test.YtjdgbahjpdopbaaDoorLx7
import Derived.Laws.StructEq
namespace Go.LW
set_option linter.unusedSimpArgs false
set_option linter.unusedVariables false
set_option linter.unusedSectionVars false
open Go Go.RowKit

/-- A kind of element: its plain form (α), what memory adds (β), its cells, what must hold of what it leads to. -/
structure EL where
  (α β : Type)
  sz : Nat
  E : β → α → List (Nat × (Nat → Value))
  val : β → α → Value
  ck : Value → Prop
  side : List Rg → β → α → Prop
  hlen : ∀ b x, (catL (E b x)).length = sz
  hval : ∀ b x, cellsL (val b x) = catL (E b x)
  one : ∀ b x v, v ∈ catL (E b x) → v.oneCell' = true
  ckE : ∀ b x v, v ∈ catL (E b x) → ck v
  mono : ∀ C L b x, side L b x → side (C ++ L) b x
def EL.cells (D : EL) (L : List Rg) (G : Nat → Value) (x : D.α) : Prop := ∃ b, D.side L b x ∧ ∀ k v, (catL (D.E b x))[k]? = some v → G k = v
theorem EL.cells.app {D : EL} {L : List Rg} {G : Nat → Value} {x : D.α} (h : D.cells L G x) (C : List Rg) : D.cells (C ++ L) G x := by
  obtain ⟨b, h1, h2⟩ := h
  exact ⟨b, D.mono C L b x h1, h2⟩
theorem EL.cells.congr {D : EL} {L : List Rg} {G G' : Nat → Value} {x : D.α} (h : D.cells L G x) (hG : ∀ k, k < D.sz → G k = G' k) : D.cells L G' x := by
  obtain ⟨b, h1, h2⟩ := h
  refine ⟨b, h1, fun k v hv => ?_⟩
  rw [← hG k (by rw [← D.hlen b x]; exact (List.getElem?_eq_some_iff.1 hv).1)]
  exact h2 k v hv
theorem EL.cells.one {D : EL} {L : List Rg} {G : Nat → Value} {x : D.α} (h : D.cells L G x) {k : Nat} (hk : k < D.sz) : (G k).oneCell' = true := by
  obtain ⟨b, h1, h2⟩ := h
  have hk' : k < (catL (D.E b x)).length := by rw [D.hlen]; exact hk
  rw [h2 k _ (List.getElem?_eq_getElem hk')]
  exact D.one b x _ (List.getElem_mem hk')
theorem EL.cells.ck {D : EL} {L : List Rg} {G : Nat → Value} {x : D.α} (h : D.cells L G x) {k : Nat} (hk : k < D.sz) : D.ck (G k) := by
  obtain ⟨b, h1, h2⟩ := h
  have hk' : k < (catL (D.E b x)).length := by rw [D.hlen]; exact hk
  rw [h2 k _ (List.getElem?_eq_getElem hk')]
  exact D.ckE b x _ (List.getElem_mem hk')

/-- The slice (a, len, cc) reads as X, out of range i (or it is empty). -/
def LV (D : EL) (L : List Rg) (i : Nat) (a : Option Addr) (len cc : Nat) (X : List D.α) : Prop :=
  X.length = len ∧ len ≤ cc ∧ (0 < len → ∃ (offs ms js os : Nat) (ps : Option Nat) (G : Nat → Value) (rw : Bool), L[i]? = some ⟨ps, offs, ms, G, rw⟩ ∧ SlV a ps os len ∧ os = offs + js ∧ js + len * D.sz ≤ ms ∧ ∀ j x, X[j]? = some x → D.cells L (fun k => G (js + j * D.sz + k)) x)
structure LO (D : EL) (L : List Rg) (a : Option Addr) (pb : Option Nat) (len cap : Nat) (F : Nat → Value) (X : List D.α) : Prop where
  ho : OwnSl a pb cap
  hc : len ≤ cap
  hl : X.length = len
  hF : ∀ j x, X[j]? = some x → D.cells L (fun k => F (j * D.sz + k)) x
  hK : ∀ q, q < cap * D.sz → D.ck (F q)

theorem LV.hl {D : EL} {L : List Rg} {i : Nat} {a : Option Addr} {len cc : Nat} {X : List D.α} (h : LV D L i a len cc X) : X.length = len := h.1
theorem LV.le {D : EL} {L : List Rg} {i : Nat} {a : Option Addr} {len cc : Nat} {X : List D.α} (h : LV D L i a len cc X) : len ≤ cc := h.2.1
theorem LV.nil {D : EL} {L : List Rg} (i : Nat) {a : Option Addr} {cc : Nat} : LV D L i a 0 cc [] := ⟨rfl, Nat.zero_le _, fun h => absurd h (Nat.lt_irrefl 0)⟩
theorem LV.app {D : EL} {L : List Rg} {i : Nat} {a : Option Addr} {len cc : Nat} {X : List D.α} (h : LV D L i a len cc X) (C : List Rg) : LV D (C ++ L) (i + C.length) a len cc X := by
  obtain ⟨hl, hc, h⟩ := h
  refine ⟨hl, hc, fun hn => ?_⟩
  obtain ⟨offs, ms, js, os, ps, G, rw, h1, h2, h3, h4, h5⟩ := h hn
  exact ⟨offs, ms, js, os, ps, G, rw, by rw [List.getElem?_append_right (by omega), Nat.add_sub_cancel]; exact h1, h2, h3, h4, fun j x hx => (h5 j x hx).app C⟩
/-- elements that lead nowhere -/
def EL.flat (D : EL) : Prop := ∀ L L' b x, D.side L b x → D.side L' b x
theorem LV.move {D : EL} (hf : D.flat) {L L' : List Rg} {i i' : Nat} {a : Option Addr} {len cc : Nat} {X : List D.α} (h : LV D L i a len cc X) {r : Rg} (h1 : L[i]? = some r) (h2 : L'[i']? = some r) : LV D L' i' a len cc X := by
  obtain ⟨hl, hc, h⟩ := h
  refine ⟨hl, hc, fun hn => ?_⟩
  obtain ⟨offs, ms, js, os, ps, G, rw, g1, g2, g3, g4, g5⟩ := h hn
  rw [h1] at g1
  obtain rfl := Option.some.inj g1
  exact ⟨offs, ms, js, os, ps, G, rw, h2, g2, g3, g4, fun j x hx => by
    obtain ⟨b, k1, k2⟩ := g5 j x hx
    exact ⟨b, hf _ _ _ _ k1, k2⟩⟩
theorem LV.unapp {D : EL} (hf : D.flat) {D' L : List Rg} {i : Nat} {a : Option Addr} {len cc : Nat} {X : List D.α} (h : LV D (D' ++ L) (i + D'.length) a len cc X) : LV D L i a len cc X := by
  obtain ⟨hl, hc, h⟩ := h
  refine ⟨hl, hc, fun hn => ?_⟩
  obtain ⟨offs, ms, js, os, ps, G, rw, g1, g2, g3, g4, g5⟩ := h hn
  rw [List.getElem?_append_right (by omega), Nat.add_sub_cancel] at g1
  exact ⟨offs, ms, js, os, ps, G, rw, g1, g2, g3, g4, fun j x hx => by
    obtain ⟨b, k1, k2⟩ := g5 j x hx
    exact ⟨b, hf _ _ _ _ k1, k2⟩⟩
/-- a part of a list -/
def sgl {α : Type} (X : List α) (lo hi : Nat) : List α := (X.drop lo).take (hi - lo)
theorem sgl_length {α : Type} {X : List α} {lo hi : Nat} (h : lo ≤ hi ∧ hi ≤ X.length) : (sgl X lo hi).length = hi - lo := by
  unfold sgl; rw [List.length_take, List.length_drop]; omega
theorem LV.sgl {D : EL} {L : List Rg} {i : Nat} {a : Option Addr} {len cc : Nat} {X : List D.α} (h : LV D L i a len cc X) {lo hi : Nat} (hb : lo ≤ hi ∧ hi ≤ len) : LV D L i (if cc = lo then a else a.map (·.add (lo * D.sz))) (hi - lo) (cc - lo) (sgl X lo hi) := by
  obtain ⟨hl, hc, h⟩ := h
  refine ⟨sgl_length (by omega), by omega, fun hn => ?_⟩
  obtain ⟨offs, ms, js, os, ps, G, rw, h1, h2, h3, h4, h6⟩ := h (by omega)
  have hm : (lo + (hi - lo)) * D.sz = lo * D.sz + (hi - lo) * D.sz := Nat.add_mul _ _ _
  have hm2 : (lo + (hi - lo)) * D.sz ≤ len * D.sz := Nat.mul_le_mul_right _ (by omega)
  refine ⟨offs, ms, js + lo * D.sz, os + lo * D.sz, ps, G, rw, h1, ?_, by omega, by omega, fun j x hx => ?_⟩
  · intro hn
    obtain ⟨b, hb1, hb2⟩ := h2 (by omega)
    refine ⟨b, hb1, ?_⟩
    rw [if_neg (by omega), hb2]
    simp [Addr.add]
  · unfold LW.sgl at hx
    have hj : j < hi - lo := by
      have := (List.getElem?_eq_some_iff.1 hx).1
      rw [List.length_take] at this; omega
    rw [List.getElem?_take_of_lt hj, List.getElem?_drop] at hx
    have := h6 (lo + j) x hx
    rw [Nat.add_mul] at this
    refine this.congr fun k _ => ?_
    show G _ = G _
    congr 1; omega
theorem LO.lv {D : EL} {L0 L : List Rg} {a : Option Addr} {pb : Option Nat} {len cap : Nat} {F : Nat → Value} {X : List D.α} (h : LO D L0 a pb len cap F X) (hs : ∀ b x, D.side L0 b x → D.side L b x) (k : Nat) (hL : L[k]? = some ⟨pb, 0, cap * D.sz, F, true⟩) : LV D L k a len cap X := by
  refine ⟨h.hl, h.hc, fun _ => ⟨0, cap * D.sz, 0, 0, pb, F, true, hL, h.ho.sl h.hc, rfl, by rw [Nat.zero_add]; exact Nat.mul_le_mul_right _ h.hc, fun j x hx => ?_⟩⟩
  obtain ⟨b, h1, h2⟩ := h.hF j x hx
  exact ⟨b, hs b x h1, fun k v hv => by rw [Nat.zero_add]; exact h2 k v hv⟩
theorem LO.nil {D : EL} {L : List Rg} {F : Nat → Value} : LO D L none none 0 0 F [] := ⟨OwnSl.nil, Nat.le_refl _, rfl, fun j x hx => by simp at hx, fun q hq => absurd hq (by simp)⟩
theorem LO.re {D : EL} {L0 L : List Rg} {a : Option Addr} {pb : Option Nat} {len cap : Nat} {F : Nat → Value} {X : List D.α} (h : LO D L0 a pb len cap F X) (hs : ∀ b x, D.side L0 b x → D.side L b x) : LO D L a pb len cap F X :=
  ⟨h.ho, h.hc, h.hl, fun j x hx => by
    obtain ⟨b, h1, h2⟩ := h.hF j x hx
    exact ⟨b, hs b x h1, h2⟩, h.hK⟩

theorem AGL_congr {ps qs : List (Nat × (Nat → Value))} (h : catL ps = catL qs) : AG ps = AG qs := by unfold AG; rw [h]
theorem getD_of {α : Type} {X : List α} {j : Nat} (hj : j < X.length) (dflt : α) : X[j]? = some (X.getD j dflt) := by
  rw [List.getD_eq_getElem?_getD, List.getElem?_eq_getElem hj]; rfl

/-! append, the old slice kept beside -/
section keep
variable {P : Program} {B : Nat} {w0 w : World} {L : List Rg}
theorem St.emptied (h : St B w0 L w) {k : Nat} {r : Rg} (hk : k < L.length) (f : Nat → Value) : St B w0 (L.set k r) w → St B w0 (r :: L.set k ⟨none, 0, 0, f, true⟩) w := fun h1 => by
  have h2 := h1.nilE f
  refine h2.perm ?_
  have e1 : ∀ x : Rg, L.set k x = L.take k ++ x :: L.drop (k + 1) := fun x => List.set_eq_take_append_cons_drop.trans (by rw [if_pos hk])
  rw [e1, e1]
  have p1 : (L.take k ++ r :: L.drop (k + 1)).Perm (r :: (L.take k ++ L.drop (k + 1))) := List.perm_middle
  have p2 : (L.take k ++ (⟨none, 0, 0, f, true⟩ : Rg) :: L.drop (k + 1)).Perm (⟨none, 0, 0, f, true⟩ :: (L.take k ++ L.drop (k + 1))) := List.perm_middle
  exact ((p1.cons _).trans (List.Perm.swap _ _ _)).trans (p2.symm.cons _)
theorem St.instead' {r r' : Rg} {k : Nat} (hk : k < L.length) (h : St B w0 (r :: L.set k r') w) : St B w0 (L.set k r) w := by
  have h1 := h.instead (k := k) (by simpa using hk)
  rw [List.set_set] at h1
  exact h1
theorem run_appendK (hst : St B w0 L w) {t t' ty : TypeId} {s by' len cap n k : Nat} {z : Value} {zf : Nat → Value} {a : Option Addr} {pb : Option Nat} {F g : Nat → Value} {y : Value} (he : elB P t s by' z) (hzs : z.cells.size = s) (hzf : ∀ q, q < s → z.cells[q]! = zf q) (hL : L[k]? = some ⟨pb, 0, cap * s, F, true⟩) (ho : OwnSl a pb cap)
    (hsrc : Src P s t' y n ((List.range (n * s)).map g) w) (hlc : len ≤ cap) (hb : (len + n) * by' ≤ 140737488355328) (h63 : len + n < 9223372036854775808) :
    ∃ w' a' pb' cap' ip r, (Builtin.append_ #[t, t'] ty #[.slice a len cap, y]).run P w = .ok (.slice a' (len + n) cap') w' ∧ OwnSl a' pb' cap' ∧ len + n ≤ cap' ∧
      St B w0 (⟨pb', 0, cap' * s, fun q => if ip = true ∨ q < (len + n) * s then spl F (len * s) (n * s) g q else zf (q % s), true⟩ :: L.set k r) w' ∧
      ((ip = true ∧ a' = a ∧ pb' = pb ∧ cap' = cap) ∨ (ip = false ∧ r = ⟨pb, 0, cap * s, F, true⟩)) := by
  obtain ⟨el, i, hu, hi, hs1, hby, hz⟩ := he
  subst hs1
  have hk : k < L.length := (List.getElem?_eq_some_iff.1 hL).1
  have hfun : (fun q => if true = true ∨ q < (len + n) * i.size then spl F (len * i.size) (n * i.size) g q else zf (q % i.size)) = spl F (len * i.size) (n * i.size) g := by funext q; rw [if_pos (.inl rfl)]
  by_cases hroom : len + n ≤ cap
  · by_cases h0 : n = 0
    · subst h0
      refine ⟨w, a, pb, cap, true, ⟨none, 0, 0, fun _ => undef, true⟩, run_append_nothing w t t' ty el i hu hi a len cap hlc y (by simpa using hsrc), ho, hroom, ?_, .inl ⟨rfl, rfl, rfl, rfl⟩⟩
      rw [hfun]
      have h1 : spl F (len * i.size) (0 * i.size) g = F := by rw [Nat.zero_mul]; funext q; rw [spl_out _ _ _ _ _ (by omega)]
      rw [h1]
      refine St.emptied hst hk _ ?_
      have h2 : L.set k ⟨pb, 0, cap * i.size, F, true⟩ = L := by
        obtain ⟨hk, hLk⟩ := List.getElem?_eq_some_iff.1 hL
        rw [← hLk]; exact List.set_getElem_self hk
      rw [h2]; exact hst
    · obtain ⟨b, hpb, ha⟩ : ∃ b, pb = some b ∧ a = some ⟨b, 0, none⟩ := by
        rcases ho with ⟨h1, _⟩ | h1
        · omega
        · exact h1
      subst hpb ha
      have hfit : len * i.size + n * i.size ≤ cap * i.size := by rw [← Nat.add_mul]; exact Nat.mul_le_mul_right _ hroom
      have hth := hst.thereR hL hfit
      refine ⟨_, some ⟨b, 0, none⟩, some b, cap, true, ⟨none, 0, 0, fun _ => undef, true⟩, run_append_room_src w t t' ty el i hu hi b 0 len cap y n _ hsrc hroom (fun j hj => (hth j (by simpa using hj)).1) (fun j hj => (hth j (by simpa using hj)).2), .inr ⟨b, rfl, rfl⟩, hroom, ?_, .inl ⟨rfl, rfl, rfl, rfl⟩⟩
      rw [hfun]
      have h5 := hst.setRange (g := g) hL (n * i.size) hfit
      have h6 := h5.nilE (fun _ => undef)
      refine h6.perm ?_
      have e1 : ∀ x : Rg, L.set k x = L.take k ++ x :: L.drop (k + 1) := fun x => List.set_eq_take_append_cons_drop.trans (by rw [if_pos hk])
      rw [e1, e1]
      exact ((List.perm_middle.cons _).trans (List.Perm.swap _ _ _)).trans ((List.perm_middle (l₁ := L.take k) (a := (⟨none, 0, 0, fun _ => undef, true⟩ : Rg)) (l₂ := L.drop (k + 1))).symm.cons _)
  · have hcap := grownCap_ge w (len + n) cap el
    have hold : (Builtin.firstCells i.size len (.slice a len cap)).run P w.drew = .ok ((List.range (len * i.size)).map F).toArray w.drew := by
      by_cases h0 : len = 0
      · subst h0
        cases a with
        | none => simp [Builtin.firstCells]
        | some a => simp [Builtin.firstCells, loadCells]; rfl
      · obtain ⟨b, hpb, ha⟩ : ∃ b, pb = some b ∧ a = some ⟨b, 0, none⟩ := by
          rcases ho with ⟨h1, _⟩ | h1
          · omega
          · exact h1
        subst hpb ha
        simp only [Builtin.firstCells]
        refine run_loadCells w.drew ⟨b, 0, none⟩ (len * i.size) F (fun q hq => ?_)
        have hfit : len * i.size ≤ cap * i.size := Nat.mul_le_mul_right _ hlc
        obtain ⟨b', hp', hcell⟩ := hst.drew.mem hL q (show q < cap * i.size by omega)
        obtain rfl : b = b' := Option.some.inj hp'
        rw [Addr.add_mid]
        exact hcell
    have hfit := growslice_fits (need := len + n) (old := cap) (bytes := i.bytes) (by omega) (by rw [hby]; exact hb)
    have hr := run_append_grow_src (P := P) w t t' ty el i z hu hi hz a len cap _ hold y n _ hsrc (by omega) (by omega) hfit
    have hcm : (len + n) * i.size + (grownCap w (len + n) cap el - (len + n)) * i.size = grownCap w (len + n) cap el * i.size := by rw [← Nat.add_mul]; congr 1; omega
    have hln : (len + n) * i.size = len * i.size + n * i.size := Nat.add_mul _ _ _
    have hcat : (catL [(grownCap w (len + n) cap el * i.size, fun q => if false = true ∨ q < (len + n) * i.size then spl F (len * i.size) (n * i.size) g q else zf (q % i.size))]).toArray = ((List.range (len * i.size)).map F ++ (List.range (n * i.size)).map g).toArray ++ Builtin.zeroCells z.cells (grownCap w (len + n) cap el - (len + n)) := by
      apply Array.ext'
      apply List.ext_getElem?
      intro q
      rw [catL_one]
      have hzc : (Builtin.zeroCells z.cells (grownCap w (len + n) cap el - (len + n))).toList = (List.range ((grownCap w (len + n) cap el - (len + n)) * i.size)).map fun x => zf (x % i.size) := by
        unfold Builtin.zeroCells
        rw [hzs]
        simp only [Array.toList_map, Array.toList_range]
        refine List.map_congr_left fun x hx => ?_
        have hx := List.mem_range.1 hx
        have hpos : 0 < i.size := by
          rcases Nat.eq_zero_or_pos i.size with h0 | h0
          · rw [h0] at hx; omega
          · exact h0
        exact hzf _ (Nat.mod_lt _ hpos)
      simp only [Array.toList_append, hzc]
      by_cases h1 : q < len * i.size
      · rw [List.append_assoc, List.getElem?_append_left (by simpa using h1)]
        simp [show q < grownCap w (len + n) cap el * i.size by omega, h1, show q < (len + n) * i.size by omega, spl, show ¬ (len * i.size ≤ q ∧ q < len * i.size + n * i.size) by omega]
      · rw [List.append_assoc, List.getElem?_append_right (by simpa using h1)]
        by_cases h2 : q < (len + n) * i.size
        · rw [List.getElem?_append_left (by simp; omega)]
          simp [show q < grownCap w (len + n) cap el * i.size by omega, h2, spl, show len * i.size ≤ q ∧ q < len * i.size + n * i.size by omega, show q - len * i.size < n * i.size by omega]
        · rw [List.getElem?_append_right (by simp; omega)]
          by_cases h3 : q < grownCap w (len + n) cap el * i.size
          · have h4 : (q - len * i.size - n * i.size) % i.size = q % i.size := by
              have h5 : q = (q - len * i.size - n * i.size) + i.size * (len + n) := by rw [Nat.mul_comm i.size, hln]; omega
              conv => rhs; rw [h5]
              rw [Nat.add_mul_mod_self_left]
            simp [h3, h2, show q - len * i.size - n * i.size < (grownCap w (len + n) cap el - (len + n)) * i.size by omega, h4]
          · simp [h3, show ¬ (q - len * i.size - n * i.size < (grownCap w (len + n) cap el - (len + n)) * i.size) by omega]
    rw [← hcat] at hr
    refine ⟨_, some ⟨w.heap.size, 0, none⟩, some w.heap.size, grownCap w (len + n) cap el, false, ⟨pb, 0, cap * i.size, F, true⟩, hr, .inr ⟨_, rfl, rfl⟩, hcap, ?_, .inr ⟨rfl, rfl⟩⟩
    have := hst.drew.alloc [(grownCap w (len + n) cap el * i.size, fun q => if false = true ∨ q < (len + n) * i.size then spl F (len * i.size) (n * i.size) g q else zf (q % i.size))] el
    have h2 : L.set k ⟨pb, 0, cap * i.size, F, true⟩ = L := by
      obtain ⟨hk, hLk⟩ := List.getElem?_eq_some_iff.1 hL
      rw [← hLk]; exact List.set_getElem_self hk
    rw [h2]
    exact this
end keep
section run
variable {P : Program} {B : Nat} {w0 w : World} {L : List Rg}
theorem run_firstCellsS {a : Option Addr} {pb : Option Nat} {s o len cap cnt off m j : Nat} {f : Nat → Value} {rw : Bool} (hst : St B w0 L w) {k : Nat} (hL : L[k]? = some ⟨pb, off, m, f, rw⟩) (hs : SlV a pb o len) (ho : o = off + j) (hc : cnt ≤ len) (hj : j + cnt * s ≤ m) :
    (Builtin.firstCells s cnt (.slice a len cap)).run P w = .ok ((List.range (cnt * s)).map fun q => f (j + q)).toArray w := by
  by_cases h0 : cnt = 0
  · subst h0
    cases a with
    | none => simp [Builtin.firstCells]
    | some a => simp [Builtin.firstCells, loadCells]; rfl
  · obtain ⟨b, hp, ha⟩ := hs (by omega)
    subst ha
    simp only [Builtin.firstCells]
    refine run_loadCells w ⟨b, o, none⟩ (cnt * s) (fun q => f (j + q)) (fun q hq => ?_)
    obtain ⟨b', hp', hcell⟩ := hst.mem hL (j + q) (show j + q < m by omega)
    simp only at hp'
    obtain rfl : b = b' := by rw [hp] at hp'; exact Option.some.inj hp'
    rw [Addr.add_mid, ho, Nat.add_assoc, hcell]
theorem run_appendS' (hst : St B w0 L w) {t t' ty : TypeId} {s by' len cap n k : Nat} {z : Value} {zf : Nat → Value} {a : Option Addr} {pb : Option Nat} {F g : Nat → Value} {y : Value} (he : elB P t s by' z) (hzs : z.cells.size = s) (hzf : ∀ q, q < s → z.cells[q]! = zf q) (hL : L[k]? = some ⟨pb, 0, cap * s, F, true⟩) (ho : OwnSl a pb cap)
    (hsrc : Src P s t' y n ((List.range (n * s)).map g) w) (hlc : len ≤ cap) (hb : (len + n) * by' ≤ 140737488355328) (h63 : len + n < 9223372036854775808) :
    ∃ w' a' pb' cap' ip, (Builtin.append_ #[t, t'] ty #[.slice a len cap, y]).run P w = .ok (.slice a' (len + n) cap') w' ∧ OwnSl a' pb' cap' ∧ len + n ≤ cap' ∧ St B w0 (L.set k ⟨pb', 0, cap' * s, fun q => if ip = true ∨ q < (len + n) * s then spl F (len * s) (n * s) g q else zf (q % s), true⟩) w' ∧ (ip = true → cap' ≤ cap) := by
  have hk : k < L.length := (List.getElem?_eq_some_iff.1 hL).1
  obtain ⟨w', a', pb', cap', ip, r, h1, h2, h3, h4, h5⟩ := run_appendK (P := P) (ty := ty) hst he hzs hzf hL ho hsrc hlc hb h63
  refine ⟨w', a', pb', cap', ip, h1, h2, h3, St.instead' hk h4, fun hip => ?_⟩
  rcases h5 with ⟨_, _, _, h5⟩ | ⟨h5, _⟩
  · omega
  · rw [h5] at hip; cases hip
theorem Src.ofLV {D : EL} (hst : St B w0 L w) {t' e' : TypeId} (hk : P.underlying t' = some (.slice e')) {a : Option Addr} {ix len cap : Nat} {X : List D.α} (h : LV D L ix a len cap X) :
    ∃ g : Nat → Value, Src P D.sz t' (.slice a len cap) len ((List.range (len * D.sz)).map g) w ∧ ∀ j x, X[j]? = some x → D.cells L (fun k => g (j * D.sz + k)) x := by
  obtain ⟨hl, hc, h⟩ := h
  by_cases hn : 0 < len
  · obtain ⟨offs, ms, js, os, ps, G, rw, h1, h2, h3, h4, h5⟩ := h hn
    refine ⟨fun q => G (js + q), ⟨.inl ⟨e', hk⟩, fun _ => rfl, run_firstCellsS hst h1 h2 h3 (Nat.le_refl _) h4, run_firstCellsS hst.drew h1 h2 h3 (Nat.le_refl _) h4, by simp, fun u hu => ?_⟩, fun j x hx => ?_⟩
    · obtain ⟨q, hq, rfl⟩ := List.mem_map.1 hu
      have hq := List.mem_range.1 hq
      have hs : 0 < D.sz := by
        rcases Nat.eq_zero_or_pos D.sz with h0 | h0
        · rw [h0, Nat.mul_zero] at hq; omega
        · exact h0
      have hj : q / D.sz < X.length := by rw [hl]; exact (Nat.div_lt_iff_lt_mul hs).2 hq
      have := (h5 _ _ (List.getElem?_eq_getElem hj)).one (Nat.mod_lt q hs)
      have e : js + q / D.sz * D.sz + q % D.sz = js + q := by rw [Nat.add_assoc, Nat.div_add_mod']
      rw [e] at this
      exact this
    · refine (h5 j x hx).congr fun k _ => ?_
      show G _ = G _
      congr 1; omega
  · obtain rfl : len = 0 := by omega
    refine ⟨fun _ => undef, ⟨.inl ⟨e', hk⟩, fun _ => rfl, ?_, ?_, by simp, by simp⟩, fun j x hx => ?_⟩
    · cases a <;> simp [Builtin.firstCells, loadCells]
      all_goals rfl
    · cases a <;> simp [Builtin.firstCells, loadCells]
      all_goals rfl
    · have := (List.getElem?_eq_some_iff.1 hx).1
      omega
end run

section step
variable {P : Program} {n : Nat} {K : Pend → Env → World → Prop} {l : List It} {O O' : Pend} {e : Env} {w : World} {i ty : Nat} {d : Tmp} {pos : String} {aft : Array Edge} {gd g : Option (Nat × Bool)}
variable {B : Nat} {w0 : World} {L L' : List Rg} {D : EL}

/-- the address of an element -/
theorem Plan.idxLV {t : TypeId} {x y : Operand} {k : IntKind} {ix len cc j sz : Nat} {a : Option Addr} {X : List D.α} (hX : LV D L ix a len cc X) (ha : slB P t sz = true) (hg : wantedE n e g = true) (hx : ev n e x = .slice a len cc) (hy : ev n e y = .int k (j : Int)) (hj : j < len)
    (h : Plan P n K l O (upd e d (.pointer (a.map fun z => ⟨z.block, z.off + j * sz, none⟩))) w) : Plan P n K (⟨i, true, ⟨some d, .indexAddr t x y, ty, pos, aft, gd⟩, g⟩ :: l) O e w := by
  obtain ⟨hl, hc, hX⟩ := hX
  obtain ⟨offs, ms, js, os, ps, G, rw, h1, h2, h3⟩ := hX (by omega)
  obtain ⟨b, hb1, hb2⟩ := h2 (by omega)
  subst hb2
  exact Plan.idxSl ha hg hx hy hj h
theorem cells_at {len j js ms s : Nat} (hj : j < len) (h4 : js + len * s ≤ ms) : js + j * s + s ≤ ms := by
  have h1 : (j + 1) * s ≤ len * s := Nat.mul_le_mul_right _ hj
  rw [Nat.succ_mul] at h1
  omega
/-- an element of many cells is read -/
theorem Plan.loadLV (hst : St B w0 L w) {t : TypeId} {x : Operand} {ix len cc j sz : Nat} {a : Option Addr} {X : List D.α} (dflt : D.α) (hX : LV D L ix a len cc X) (hg : wantedE n e g = true) (hx : ev n e x = .pointer (a.map fun z => ⟨z.block, z.off + j * sz, none⟩)) (hj : j < len) (hsz : D.sz = sz) (ht : aggT P t sz = true)
    (h : ∀ b r, D.side L b (X.getD j dflt) → L[ix]? = some r → Plan P n K l ((i, r.at) :: O) (upd e d (AG (D.E b (X.getD j dflt)))) w) : Plan P n K (⟨i, true, ⟨some d, .load t x, ty, pos, aft, gd⟩, g⟩ :: l) O e w := by
  subst hsz
  obtain ⟨hl, hc, hX⟩ := hX
  obtain ⟨offs, ms, js, os, ps, G, rw, h1, h2, h3, h4, h5⟩ := hX (by omega)
  obtain ⟨b, hb1, hb2⟩ := h2 (by omega)
  subst hb2 hb1
  obtain ⟨bb, s1, s2⟩ := h5 j _ (getD_of (by omega) dflt)
  have hx' : ev n e x = .pointer (some ⟨b, offs + (js + j * D.sz), none⟩) := by rw [hx, ← Nat.add_assoc, ← h3]; rfl
  refine Plan.loadSub hst ix (js + j * D.sz) hg hx' h1 rfl (cells_at hj h4) ht ?_
  have h7 := h bb _ s1 h1
  have e1 : AG [(D.sz, fun q => G (js + j * D.sz + q))] = AG (D.E bb (X.getD j dflt)) := by
    refine AGL_congr ?_
    rw [catL_one]
    have hlen := D.hlen bb (X.getD j dflt)
    apply List.ext_getElem?
    intro q
    by_cases hq : q < D.sz
    · have hq2 : q < (catL (D.E bb (X.getD j dflt))).length := by rw [hlen]; exact hq
      rw [List.getElem?_eq_getElem hq2, List.getElem?_map, List.getElem?_range hq]
      exact congrArg some (s2 q _ (List.getElem?_eq_getElem hq2))
    · rw [List.getElem?_eq_none (by simpa using hq), List.getElem?_eq_none (by omega)]
  rw [e1]
  exact h7
/-- an element of one cell -/
theorem Plan.loadLV1 (hst : St B w0 L w) {t : TypeId} {x : Operand} {ix len cc j : Nat} {a : Option Addr} {X : List D.α} (dflt : D.α) (v : D.β → D.α → Value) (hX : LV D L ix a len cc X) (hg : wantedE n e g = true) (hx : ev n e x = .pointer (a.map fun z => ⟨z.block, z.off + j * 1, none⟩)) (hj : j < len) (hsz : D.sz = 1) (hv : ∀ b y, (catL (D.E b y))[0]? = some (v b y)) (ht : scalarT P t = true)
    (h : ∀ b r, D.side L b (X.getD j dflt) → L[ix]? = some r → Plan P n K l ((i, r.at) :: O) (upd e d (v b (X.getD j dflt))) w) : Plan P n K (⟨i, true, ⟨some d, .load t x, ty, pos, aft, gd⟩, g⟩ :: l) O e w := by
  obtain ⟨hl, hc, hX⟩ := hX
  obtain ⟨offs, ms, js, os, ps, G, rw, h1, h2, h3, h4, h5⟩ := hX (by omega)
  obtain ⟨b, hb1, hb2⟩ := h2 (by omega)
  subst hb2 hb1
  obtain ⟨bb, s1, s2⟩ := h5 j _ (getD_of (by omega) dflt)
  have hx' : ev n e x = .pointer (some ⟨b, offs + (js + j), none⟩) := by rw [hx, ← Nat.add_assoc, ← h3, Nat.mul_one]; rfl
  have h7 := h bb _ s1 h1
  have e1 : G (js + j * D.sz + 0) = _ := s2 0 _ (hv bb _)
  rw [hsz, Nat.mul_one, Nat.add_zero] at e1
  rw [hsz] at h4
  refine Plan.load1 hst ix hg hx' h1 (by omega) ht ?_
  rw [e1]
  exact h7
/-- an element of an own slice is set -/
theorem LO.set {a : Option Addr} {pb : Option Nat} {len cap j : Nat} {F f' : Nat → Value} {X : List D.α} {y : D.α} (hO : LO D L a pb len cap F X) (hj : j < len) (hy : D.cells L f' y) : LO D L a pb len cap (spl F (j * D.sz) D.sz f') (X.set j y) := by
  refine ⟨hO.ho, hO.hc, by rw [List.length_set]; exact hO.hl, fun q x hx => ?_, fun q hq => ?_⟩
  rotate_left
  · by_cases h : j * D.sz ≤ q ∧ q < j * D.sz + D.sz
    · rw [spl_in _ _ _ _ _ h]; exact hy.ck (by omega)
    · rw [spl_out _ _ _ _ _ h]; exact hO.hK q hq
  by_cases hq : q = j
  · subst hq
    rw [List.getElem?_set_self (by rw [hO.hl]; exact hj)] at hx
    obtain rfl := Option.some.inj hx
    refine hy.congr fun k hk => ?_
    rw [spl_in _ _ _ _ _ ⟨by omega, by omega⟩]
    congr 1; omega
  · rw [List.getElem?_set_ne (Ne.symm hq)] at hx
    refine (hO.hF q x hx).congr fun k hk => ?_
    rw [spl_out _ _ _ _ _ ?_]
    rintro ⟨h1, h2⟩
    rcases Nat.lt_or_gt_of_ne hq with h3 | h3
    · have : (q + 1) * D.sz ≤ j * D.sz := Nat.mul_le_mul_right _ h3
      rw [Nat.succ_mul] at this
      omega
    · have : (j + 1) * D.sz ≤ q * D.sz := Nat.mul_le_mul_right _ h3
      rw [Nat.succ_mul] at this
      omega
theorem Plan.storeLO (hst : St B w0 L w) {L0 : List Rg} {t : TypeId} {x y : Operand} {len cap j sz : Nat} {a : Option Addr} {pb : Option Nat} {F : Nat → Value} {X : List D.α} (bb : D.β) (Y : D.α) (k : Nat) (hO : LO D L0 a pb len cap F X) (hs : D.side L0 bb Y) (hg : wantedE n e g = true) (hx : ev n e x = .pointer (a.map fun z => ⟨z.block, z.off + j * sz, none⟩)) (hy : ev n e y = AG (D.E bb Y))
    (hL : L[k]? = some ⟨pb, 0, cap * sz, F, true⟩) (hj : j < len) (hsz : D.sz = sz) (ht : szT P t sz = true) (hw : ∀ r, EffO aft O (L.set k r) O')
    (h : ∀ w' F', LO D L0 a pb len cap F' (X.set j Y) → St B w0 (L.set k ⟨pb, 0, cap * sz, F', true⟩) w' → Plan P n K l O' e w') : Plan P n K (⟨i, false, ⟨none, .store t x y, ty, pos, aft, gd⟩, g⟩ :: l) O e w := by
  subst hsz
  have hOc := hO.hc
  obtain ⟨b, rfl, rfl⟩ := hO.ho.pos (by omega)
  have hlen := D.hlen bb Y
  have hAG : AG (D.E bb Y) = AG [(D.sz, fun q => (catL (D.E bb Y)).getD q undef)] := by
    refine AGL_congr ?_
    rw [catL_one]
    apply List.ext_getElem?
    intro q
    by_cases hq : q < D.sz
    · rw [List.getElem?_map, List.getElem?_range hq, getD_of (by omega) undef]; rfl
    · rw [List.getElem?_eq_none (by omega), List.getElem?_eq_none (by simpa using hq)]
  have hcell : D.cells L0 (fun q => (catL (D.E bb Y)).getD q undef) Y := ⟨bb, hs, fun q v hv => by
    show (catL (D.E bb Y)).getD q undef = v
    rw [List.getD_eq_getElem?_getD, hv]; rfl⟩
  have hbd : j * D.sz + D.sz ≤ cap * D.sz := by
    have : (j + 1) * D.sz ≤ cap * D.sz := Nat.mul_le_mul_right _ (by omega)
    rw [Nat.succ_mul] at this
    exact this
  refine Plan.storeSub (off := 0) (j := j * D.sz) (o := 0 + j * D.sz) hst k hg (by rw [hx]; rfl) (by rw [hy, hAG]) hL rfl hbd (fun q hq => ?_) ht (hw _) fun w' h' => h w' _ (hO.set hj hcell) h'
  exact hcell.one hq
/-- the cells of a list, all of one kind -/
theorem rows_ck {L : List Rg} {X : List D.α} {g : Nat → Value} {m : Nat} (hm : X.length = m) (hg : ∀ j x, X[j]? = some x → D.cells L (fun k => g (j * D.sz + k)) x) {q : Nat} (hq : q < m * D.sz) : D.ck (g q) := by
  have hs : 0 < D.sz := by
    rcases Nat.eq_zero_or_pos D.sz with h0 | h0
    · rw [h0, Nat.mul_zero] at hq; omega
    · exact h0
  have hj : q / D.sz < X.length := by rw [hm]; exact (Nat.div_lt_iff_lt_mul hs).2 hq
  have := (hg _ _ (List.getElem?_eq_getElem hj)).ck (Nat.mod_lt q hs)
  rw [Nat.div_add_mod'] at this
  exact this
theorem app_ck {L0 L : List Rg} {len cap m cap' : Nat} {a : Option Addr} {pb : Option Nat} {F gg : Nat → Value} {X Y : List D.α} {z : Value} {bb : D.β} {zx : D.α} {ip : Bool} (hO : LO D L0 a pb len cap F X) (hz : z.cells.toList = catL (D.E bb zx)) (hYl : Y.length = m) (hgg : ∀ j x, Y[j]? = some x → D.cells L (fun k => gg (j * D.sz + k)) x) (hip : ip = true → cap' ≤ cap) (q : Nat) (hq : q < cap' * D.sz) :
    D.ck (if ip = true ∨ q < (len + m) * D.sz then spl F (len * D.sz) (m * D.sz) gg q else z.cells[q % D.sz]!) := by
  by_cases h1 : ip = true ∨ q < (len + m) * D.sz
  · rw [if_pos h1]
    by_cases h2 : len * D.sz ≤ q ∧ q < len * D.sz + m * D.sz
    · rw [spl_in _ _ _ _ _ h2]; exact rows_ck hYl hgg (by omega)
    · rw [spl_out _ _ _ _ _ h2]
      refine hO.hK q ?_
      rcases h1 with h1 | h1
      · exact Nat.lt_of_lt_of_le hq (Nat.mul_le_mul_right _ (hip h1))
      · rw [Nat.add_mul] at h1
        have : len * D.sz ≤ cap * D.sz := Nat.mul_le_mul_right _ hO.hc
        omega
  · rw [if_neg h1]
    have hs : 0 < D.sz := by
      rcases Nat.eq_zero_or_pos D.sz with h0 | h0
      · rw [h0, Nat.mul_zero] at hq; omega
      · exact h0
    have hzl : z.cells.size = D.sz := by rw [← Array.length_toList, hz, D.hlen]
    have hlt : q % D.sz < z.cells.size := by rw [hzl]; exact Nat.mod_lt _ hs
    refine D.ckE bb zx _ ?_
    rw [← hz, Array.getElem!_eq_getD, Array.getD_eq_getD_getElem?, Array.getElem?_eq_getElem hlt]
    exact Array.getElem_mem_toList hlt
/-- append of a view onto an own slice -/
theorem Plan.appendLO (hst : St B w0 L w) {L0 : List Rg} {t t' el' : TypeId} {x y : Operand} {len cap m cy iy sz by' : Nat} {a ay : Option Addr} {pb : Option Nat} {F : Nat → Value} {X Y : List D.α} {z : Value} (bb : D.β) (zx : D.α) (k : Nat) (hO : LO D L0 a pb len cap F X) (hsz : D.sz = sz) (he : elD P t = some (sz, by', some z)) (hzc : z.cells.toList = catL (D.E bb zx)) (ht' : P.underlying t' = some (.slice el')) (hg : wantedE n e g = true)
    (hx : ev n e x = .slice a len cap) (hy : ev n e y = .slice ay m cy) (hL : L[k]? = some ⟨pb, 0, cap * sz, F, true⟩) (hY : LV D L iy ay m cy Y) (hs0 : ∀ b x, D.side L b x → D.side L0 b x) (hb : (len + m) * by' ≤ 140737488355328) (h63 : len + m < 9223372036854775808)
    (hw : ∀ r, EffO aft O (L.set k r) O')
    (h : ∀ a' pb' cap' (F' : Nat → Value) w', LO D L0 a' pb' (X ++ Y).length cap' F' (X ++ Y) → St B w0 (L.set k ⟨pb', 0, cap' * sz, F', true⟩) w' → Plan P n K l O' (updO e (some d) (.slice a' (X ++ Y).length cap')) w') :
    Plan P n K (⟨i, false, ⟨some d, .call ⟨.builtin .append, #[x, y], #[t, t']⟩, ty, pos, aft, gd⟩, g⟩ :: l) O e w := by
  subst hsz
  have hzs : z.cells.size = D.sz := by rw [← Array.length_toList, hzc, D.hlen]
  obtain ⟨gg, hsrc, hgg⟩ := Src.ofLV hst ht' hY
  obtain ⟨w', a', pb', cap', ip, hr, ho', hcap, hst', hipc⟩ := run_appendS' (P := P) (ty := ty) (zf := fun q => z.cells[q]!) hst (elB_of he) hzs (fun q hq => rfl) hL hO.ho hsrc hO.hc hb h63
  have hl : (X ++ Y).length = len + m := by rw [List.length_append, hO.hl, hY.hl]
  have hLO : LO D L0 a' pb' (len + m) cap' (fun q => if ip = true ∨ q < (len + m) * D.sz then spl F (len * D.sz) (m * D.sz) gg q else z.cells[q % D.sz]!) (X ++ Y) := by
    refine ⟨ho', hcap, hl, fun j x hx => ?_, app_ck hO hzc hY.hl hgg hipc⟩
    have hj : j < len + m := by rw [← hl]; exact (List.getElem?_eq_some_iff.1 hx).1
    have hin : ∀ k, k < D.sz → j * D.sz + k < (len + m) * D.sz := fun k hk => by
      have : (j + 1) * D.sz ≤ (len + m) * D.sz := Nat.mul_le_mul_right _ hj
      rw [Nat.succ_mul] at this
      omega
    by_cases h1 : j < X.length
    · rw [List.getElem?_append_left h1] at hx
      refine (hO.hF j x hx).congr fun k hk => ?_
      rw [if_pos (.inr (hin k hk)), spl_out]
      rintro ⟨h2, _⟩
      have : (j + 1) * D.sz ≤ len * D.sz := Nat.mul_le_mul_right _ (by rw [hO.hl] at h1; exact h1)
      rw [Nat.succ_mul] at this
      omega
    · rw [List.getElem?_append_right (by omega)] at hx
      obtain ⟨b, s1, s2⟩ := hgg _ x hx
      refine EL.cells.congr ⟨b, hs0 b x s1, s2⟩ fun k hk => ?_
      have e1 : j * D.sz = len * D.sz + (j - X.length) * D.sz := by rw [← Nat.add_mul, hO.hl]; congr 1; rw [hO.hl] at h1; omega
      have e2 : (j - X.length) * D.sz + k < m * D.sz := by
        have := hin k hk
        rw [Nat.add_mul] at this
        omega
      rw [if_pos (.inr (hin k hk)), spl_in _ _ _ _ _ ⟨by omega, by omega⟩]
      congr 1; omega
  rw [← hl] at hr hLO
  refine Plan.effS hg (w' := w') (v := .slice a' (X ++ Y).length cap') (run_blt2 fun c => ?_) hst' (hw _) fun w' hw' => h a' pb' cap' _ w' ?_ hw'
  · rw [hx, hy]
    simp only [builtin, Sem.run_bind, hr]
    rfl
  · rw [hl] at hLO ⊢; exact hLO
/-- an element of one cell is set -/
theorem Plan.storeLO1 (hst : St B w0 L w) {L0 : List Rg} {t : TypeId} {x y : Operand} {len cap j : Nat} {a : Option Addr} {pb : Option Nat} {F : Nat → Value} {X : List D.α} (bb : D.β) (Y : D.α) (v : Value) (k : Nat) (hO : LO D L0 a pb len cap F X) (hs : D.side L0 bb Y) (hg : wantedE n e g = true) (hx : ev n e x = .pointer (a.map fun z => ⟨z.block, z.off + j * 1, none⟩)) (hy : ev n e y = v) (hv : catL (D.E bb Y) = [v])
    (hL : L[k]? = some ⟨pb, 0, cap * 1, F, true⟩) (hj : j < len) (hsz : D.sz = 1) (ht : szT P t 1 = true) (hw : O.all (fun p => waitsO ⟨none, .store t x y, ty, pos, aft, gd⟩ p.1) = true)
    (h : ∀ w' F', LO D L0 a pb len cap F' (X.set j Y) → St B w0 (L.set k ⟨pb, 0, cap * 1, F', true⟩) w' → Plan P n K l [] e w') : Plan P n K (⟨i, false, ⟨none, .store t x y, ty, pos, aft, gd⟩, g⟩ :: l) O e w := by
  have hOc := hO.hc
  obtain ⟨b, rfl, rfl⟩ := hO.ho.pos (by omega)
  have hone : v.oneCell' = true := D.one bb Y v (by rw [hv]; exact List.mem_singleton.2 rfl)
  have hcell : D.cells L0 (fun _ => v) Y := ⟨bb, hs, fun q u hu => by
    rw [hv] at hu
    cases q with
    | zero => simpa using hu
    | succ q => simp at hu⟩
  have hset := hO.set hj hcell
  rw [hsz, Nat.mul_one] at hset
  have e1 : spl F j 1 (fun _ => v) = upd F j v := by
    funext q
    rw [upd_at]
    by_cases hq : q = j
    · subst hq; rw [if_pos rfl, spl_in _ _ _ _ _ ⟨by omega, by omega⟩]
    · rw [if_neg hq, spl_out _ _ _ _ _ (by omega)]
  rw [e1] at hset
  refine Plan.store1 (off := 0) (j := j) hst k hg (by rw [hx]; simp) hy hL (by omega) hone ht hw fun w' h' => h w' _ hset h'
theorem writeL_length : ∀ (vs cs : List Value) (o : Nat), (writeL cs o vs).length = cs.length
  | [], _, _ => rfl
  | v :: vs, cs, o => by
    show (writeL (cs.set o v) (o + 1) vs).length = _
    rw [writeL_length vs, List.length_set]
/-- all elements laid, one behind the other -/
def idxd (D : EL) : Nat → List (D.β × D.α) → List (Nat × Value)
  | _, [] => []
  | q, p :: xs => (q, D.val p.1 p.2) :: idxd D (q + 1) xs
theorem fill_rows : ∀ (xs : List (D.β × D.α)) (q : Nat) (A C : List Value), A.length = q * D.sz → C.length = xs.length * D.sz → fillL (fun i => some (i * D.sz, D.sz)) (A ++ C) (idxd D q xs) = some (A ++ xs.flatMap fun p => catL (D.E p.1 p.2))
  | [], q, A, C, _, hC => by
    have : C = [] := List.length_eq_zero_iff.1 (by simpa using hC)
    subst this
    simp [idxd, fillL]
  | p :: xs, q, A, C, hA, hC => by
    have hC1 : C.length = D.sz + xs.length * D.sz := by rw [hC, List.length_cons, Nat.succ_mul, Nat.add_comm]
    have e1 : A ++ C = A ++ C.take D.sz ++ C.drop D.sz := by rw [List.append_assoc, List.take_append_drop]
    have hz : (C.take D.sz).length = D.sz := by rw [List.length_take]; omega
    show fillL _ (A ++ C) ((q, D.val p.1 p.2) :: idxd D (q + 1) xs) = _
    rw [e1, fillStep (A := A) (Z := C.take D.sz) (C := C.drop D.sz) (Y := catL (D.E p.1 p.2)) (by rw [hA, hz]) (by rw [hz]; exact D.hlen _ _) (D.hval _ _)]
    rw [fill_rows xs (q + 1) (A ++ catL (D.E p.1 p.2)) (C.drop D.sz) (by rw [List.length_append, hA, D.hlen, Nat.succ_mul]) (by rw [List.length_drop]; omega)]
    rw [List.flatMap_cons, List.append_assoc]
theorem rows_at : ∀ (xs : List (D.β × D.α)) (j : Nat) (p : D.β × D.α) (k : Nat) (v : Value), xs[j]? = some p → (catL (D.E p.1 p.2))[k]? = some v → (xs.flatMap fun p => catL (D.E p.1 p.2))[j * D.sz + k]? = some v
  | q :: xs, 0, p, k, v, h, hv => by
    obtain rfl : q = p := by simpa using h
    rw [List.flatMap_cons, Nat.zero_mul, Nat.zero_add, List.getElem?_append_left (List.getElem?_eq_some_iff.1 hv).1]
    exact hv
  | q :: xs, j + 1, p, k, v, h, hv => by
    have ih := rows_at xs j p k v (by simpa using h) hv
    rw [List.flatMap_cons, List.getElem?_append_right (by rw [D.hlen, Nat.succ_mul]; omega), D.hlen, Nat.succ_mul, show j * D.sz + D.sz + k - D.sz = j * D.sz + k by omega]
    exact ih
theorem rows_length : ∀ xs : List (D.β × D.α), (xs.flatMap fun p => catL (D.E p.1 p.2)).length = xs.length * D.sz
  | [] => by simp
  | q :: xs => by rw [List.flatMap_cons, List.length_append, D.hlen, rows_length xs, List.length_cons, Nat.succ_mul, Nat.add_comm]
/-- a slice built of elements -/
theorem Plan.buildLO (hst : St B w0 L w) {t el : TypeId} {len sz : Nat} {parts : Array (Nat × Operand)} {z : Value} (xs : List (D.β × D.α)) (hu : P.underlying t = some (.slice el)) (hs : szT P el sz = true) (hz : (P.info? el).bind (·.zero) = some z)
    (hl : 0 < len * sz) (hl2 : len * sz ≤ 16777216) (hg : wantedE n e g = true) (hsz : D.sz = sz) (hXl : xs.length = len)
    (hv : parts.toList.map (fun p => (p.1, ev n e p.2)) = idxd D 0 xs) (hX : ∀ p ∈ xs, D.side L p.1 p.2) (hO : EffO aft O L O')
    (h : ∀ b w' F, B ≤ b → LO D L (some ⟨b, 0, none⟩) (some b) (xs.map (·.2)).length len F (xs.map (·.2)) → St B w0 (⟨some b, 0, len * sz, F, true⟩ :: L) w' → Plan P n K l O' (upd e d (.slice (some ⟨b, 0, none⟩) (xs.map (·.2)).length len)) w') :
    Plan P n K (⟨i, false, ⟨some d, .buildSlice t len parts, ty, pos, aft, gd⟩, g⟩ :: l) O e w := by
  subst hsz
  have hlen := rows_length xs
  rw [hXl] at hlen
  have hcat : catL [(len * D.sz, fun q => (xs.flatMap fun p => catL (D.E p.1 p.2)).getD q undef)] = xs.flatMap fun p => catL (D.E p.1 p.2) := by
    rw [catL_one]
    apply List.ext_getElem?
    intro q
    by_cases hq : q < len * D.sz
    · rw [List.getElem?_map, List.getElem?_range hq, getD_of (by omega) undef]; rfl
    · rw [List.getElem?_eq_none (by simpa using hq), List.getElem?_eq_none (by omega)]
  have hf : fillL (fun i => some (i * D.sz, D.sz)) ((List.range (len * D.sz)).map fun i => z.cells[i % z.cells.size]!) (idxd D 0 xs) = some (catL [(len * D.sz, fun q => (xs.flatMap fun p => catL (D.E p.1 p.2)).getD q undef)]) := by
    rw [hcat]
    have := fill_rows xs 0 [] ((List.range (len * D.sz)).map fun i => z.cells[i % z.cells.size]!) (by simp) (by simp [hXl])
    simpa using this
  refine Plan.buildSlice (ps := [(len * D.sz, fun q => (xs.flatMap fun p => catL (D.E p.1 p.2)).getD q undef)]) hst hu hs hz hl hl2 hg hv hf hO (fun b w' hb hst' => ?_)
  have hm : (xs.map (·.2)).length = len := by rw [List.length_map, hXl]
  have := h b w' (fun q => (xs.flatMap fun (p : D.β × D.α) => catL (D.E p.1 p.2)).getD q undef) hb ⟨.inr ⟨b, rfl, rfl⟩, by rw [hm]; exact Nat.le_refl _, rfl, fun j x hx => by
    rw [List.getElem?_map] at hx
    cases hq : xs[j]? with
    | none => rw [hq] at hx; cases hx
    | some p =>
      rw [hq] at hx
      obtain rfl : p.2 = x := by simpa using hx
      exact ⟨p.1, hX p (List.mem_of_getElem? hq), fun k v hv => by
        show List.getD _ _ _ = v
        rw [List.getD_eq_getElem?_getD, rows_at xs j p k v hq hv]; rfl⟩, fun q hq => by
    have hq2 : q < (xs.flatMap fun (p : D.β × D.α) => catL (D.E p.1 p.2)).length := by rw [hlen]; exact hq
    rw [List.getD_eq_getElem?_getD, List.getElem?_eq_getElem hq2]
    obtain ⟨p, _, hv⟩ := List.mem_flatMap.1 (List.getElem_mem hq2)
    exact D.ckE _ _ _ hv⟩ hst'
  rw [hm] at this
  exact this
/-- a slice made of zeros -/
theorem Plan.makeLO (hst : St B w0 L w) {t : TypeId} {x y : Operand} {len c sz by' : Nat} {k k' : IntKind} {z : Value} (bb : D.β) (zx : D.α) (he : elD P t = some (sz, by', some z)) (hsz : D.sz = sz) (hz : z.cells.toList = catL (D.E bb zx)) (hs : D.side L bb zx) (hg : wantedE n e g = true) (hx : ev n e x = .int k (len : Int)) (hy : ev n e y = .int k' (c : Int)) (hlc : len ≤ c) (hc : c * by' ≤ 281474976710656) (hc2 : c < 9223372036854775808)
    (hO : ∀ r, EffO aft O (r :: L) O')
    (h : ∀ b w' F, B ≤ b → LO D L (some ⟨b, 0, none⟩) (some b) (List.replicate len zx).length c F (List.replicate len zx) → St B w0 (⟨some b, 0, c * sz, F, true⟩ :: L) w' → Plan P n K l O' (updO e (some d) (.slice (some ⟨b, 0, none⟩) (List.replicate len zx).length c)) w') :
    Plan P n K (⟨i, false, ⟨some d, .makeSlice t x y, ty, pos, aft, gd⟩, g⟩ :: l) O e w := by
  subst hsz
  obtain ⟨el, inf, hu, hi, hs1, hby, hzz⟩ := elB_of he
  have hr := run_make (P := P) w t el inf _ hu hi hzz k k' len c (Int.natCast_nonneg _) (by omega) (by rw [hby, ← Int.natCast_mul, Nat.mul_comm]; exact Int.ofNat_le.2 hc) (by omega)
  have hzl : z.cells.size = D.sz := by rw [← Array.length_toList, hz, D.hlen]
  have hm : madeCells z.cells ((c : Int).toNat * inf.size) = (catL [(c * D.sz, fun q => z.cells[q % z.cells.size]!)]).toArray := by
    rw [hs1, Int.toNat_natCast, catL_one]
    unfold madeCells
    apply Array.ext'
    simp
  rw [hm] at hr
  have hLO : LO D L (some ⟨w.heap.size, 0, none⟩) (some w.heap.size) (List.replicate len zx).length c (fun q => z.cells[q % z.cells.size]!) (List.replicate len zx) := by
    refine ⟨.inr ⟨_, rfl, rfl⟩, by rw [List.length_replicate]; exact hlc, rfl, fun j x hx => ?_, fun q hq => ?_⟩
    rotate_left
    · have hs : 0 < D.sz := by
        rcases Nat.eq_zero_or_pos D.sz with h0 | h0
        · rw [h0, Nat.mul_zero] at hq; omega
        · exact h0
      have hlt : q % z.cells.size < z.cells.size := Nat.mod_lt _ (by omega)
      refine D.ckE bb zx _ ?_
      rw [← hz, Array.getElem!_eq_getD, Array.getD_eq_getD_getElem?, Array.getElem?_eq_getElem hlt]
      exact Array.getElem_mem_toList hlt
    obtain rfl : zx = x := by
      rw [List.getElem?_replicate] at hx
      split at hx
      · simpa using hx
      · cases hx
    refine ⟨bb, hs, fun q v hv => ?_⟩
    have hq : q < D.sz := by rw [← D.hlen bb zx]; exact (List.getElem?_eq_some_iff.1 hv).1
    show z.cells[(j * D.sz + q) % z.cells.size]! = v
    rw [hzl, Nat.add_comm, Nat.add_mul_mod_self_right, Nat.mod_eq_of_lt hq]
    rw [← hz] at hv
    rw [Array.getElem?_toList] at hv
    rw [Array.getElem!_eq_getD, Array.getD_eq_getD_getElem?, hv]; rfl
  refine Plan.effS (w' := w.alloc (.cells (catL [(c * D.sz, fun q => z.cells[q % z.cells.size]!)]).toArray el)) (v := .slice (some ⟨w.heap.size, 0, none⟩) (List.replicate len zx).length c) hg (run_v ?_) (hst.alloc [(c * D.sz, fun q => z.cells[q % z.cells.size]!)] el) (hO _) (fun w' hw' => h _ w' _ hst.base hLO hw')
  rw [hx, hy, hr]
  simp
end step
end Go.LW
