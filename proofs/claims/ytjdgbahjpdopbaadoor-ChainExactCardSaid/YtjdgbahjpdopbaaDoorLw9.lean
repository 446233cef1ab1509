/-
  ENGINE, PART 9 (own work): append to a slice of the call's own (or to nil); arrays compared; an array out of a slice.
-/
import Derived.Test.YtjdgbahjpdopbaaDoorLw8
import Derived.Deep.Upon
namespace Go.LW
set_option linter.unusedSimpArgs false
set_option linter.unusedVariables false
set_option linter.unusedSectionVars false
open Go Go.RowKit

/-- the slice type's element: so many cells, so many bytes, with this zero -/
def elB (P : Program) (t : TypeId) (s by' : Nat) (z : Value) : Prop := ∃ el i, P.underlying t = some (.slice el) ∧ P.info? el = some i ∧ i.size = s ∧ i.bytes = by' ∧ i.zero = some z
def elD (P : Program) (t : TypeId) : Option (Nat × Nat × Option Value) := match P.underlying t with
  | some (.slice el) => (P.info? el).map fun i => (i.size, i.bytes, i.zero)
  | _ => none
theorem elB_of {P : Program} {t : TypeId} {s by' : Nat} {z : Value} (h : elD P t = some (s, by', some z)) : elB P t s by' z := by
  unfold elD at h
  cases hu : P.underlying t with
  | none => rw [hu] at h; cases h
  | some dsc =>
    rw [hu] at h
    cases dsc <;> try (cases h; done)
    rename_i el
    simp only at h
    cases hi : P.info? el with
    | none => rw [hi] at h; cases h
    | some i =>
      rw [hi] at h
      simp only [Option.map_some, Option.some.injEq, Prod.mk.injEq] at h
      exact ⟨el, i, hu, hi, h.1, h.2.1, h.2.2⟩

/-- A slice of the call's own: nil, or from the head of a block on. -/
def OwnSl (a : Option Addr) (pb : Option Nat) (cap : Nat) : Prop := (cap = 0 ∧ a = none ∧ pb = none) ∨ ∃ b, pb = some b ∧ a = some ⟨b, 0, none⟩
theorem OwnSl.sl {a : Option Addr} {pb : Option Nat} {cap len : Nat} (h : OwnSl a pb cap) (hl : len ≤ cap) : SlV a pb 0 len := fun h0 => by
  rcases h with ⟨h1, _⟩ | ⟨b, h1, h2⟩
  · omega
  · exact ⟨b, h1, h2⟩

section st
variable {B : Nat} {w0 w : World} {L : List Rg}
theorem St.nilE (h : St B w0 L w) (f : Nat → Value) : St B w0 (⟨none, 0, 0, f, true⟩ :: L) w :=
  h.cons (fun j hj => absurd hj (by simp)) (fun _ j hj => absurd hj (by simp)) (fun s _ _ => .inr (.inr (.inr (.inl rfl))))
/-- the first range takes the place of another -/
theorem St.instead {r : Rg} (h : St B w0 (r :: L) w) {k : Nat} (_hk : k < L.length) : St B w0 (L.set k r) w := by
  have hap := List.pairwise_cons.1 h.apart
  refine ⟨h.below, h.base, fun s hs => ?_, fun s hs => ?_, ?_⟩
  · rcases List.mem_or_eq_of_mem_set hs with hs | rfl
    · exact h.at_ s (List.mem_cons_of_mem _ hs)
    · exact h.at_ _ List.mem_cons_self
  · rcases List.mem_or_eq_of_mem_set hs with hs | rfl
    · exact h.free s (List.mem_cons_of_mem _ hs)
    · exact h.free _ List.mem_cons_self
  · rw [List.pairwise_iff_getElem]
    intro x y hx hy hxy
    have hx' : x < L.length := by simpa using hx
    have hy' : y < L.length := by simpa using hy
    rw [List.getElem_set, List.getElem_set]
    by_cases h1 : k = x
    · rw [if_pos h1, if_neg (by omega)]
      exact hap.1 _ (List.getElem_mem hy')
    · rw [if_neg h1]
      by_cases h2 : k = y
      · rw [if_pos h2]
        exact (hap.1 _ (List.getElem_mem hx')).symm
      · rw [if_neg h2]
        exact List.pairwise_iff_getElem.1 hap.2 x y hx' hy' hxy
end st

section run
variable {P : Program} {B : Nat} {w0 w : World} {L : List Rg}

theorem catL_one (m : Nat) (f : Nat → Value) : catL [(m, f)] = (List.range m).map f := by simp [catL]

/-- An append onto a slice of the call's own: the slice that comes, and where it lies. -/
theorem run_appendS (hst : St B w0 L w) {t t' ty : TypeId} {s by' len cap n k : Nat} {z : Value} {zf : Nat → Value} {a : Option Addr} {pb : Option Nat} {F g : Nat → Value} {y : Value} (he : elB P t s by' z) (hzs : z.cells.size = s) (hzf : ∀ q, q < s → z.cells[q]! = zf q) (hL : L[k]? = some ⟨pb, 0, cap * s, F, true⟩) (ho : OwnSl a pb cap)
    (hsrc : Src P s t' y n ((List.range (n * s)).map g) w) (hlc : len ≤ cap) (hb : (len + n) * by' ≤ 140737488355328) (h63 : len + n < 9223372036854775808) :
    ∃ w' a' pb' cap' ip, (Builtin.append_ #[t, t'] ty #[.slice a len cap, y]).run P w = .ok (.slice a' (len + n) cap') w' ∧ OwnSl a' pb' cap' ∧ len + n ≤ cap' ∧ St B w0 (L.set k ⟨pb', 0, cap' * s, fun q => if ip = true ∨ q < (len + n) * s then spl F (len * s) (n * s) g q else zf (q % s), true⟩) w' := by
  obtain ⟨el, i, hu, hi, hs1, hby, hz⟩ := he
  subst hs1
  have hk : k < L.length := (List.getElem?_eq_some_iff.1 hL).1
  have hfun : (fun q => if true = true ∨ q < (len + n) * i.size then spl F (len * i.size) (n * i.size) g q else zf (q % i.size)) = spl F (len * i.size) (n * i.size) g := by funext q; rw [if_pos (.inl rfl)]
  by_cases hroom : len + n ≤ cap
  · by_cases h0 : n = 0
    · subst h0
      refine ⟨w, a, pb, cap, true, run_append_nothing w t t' ty el i hu hi a len cap hlc y (by simpa using hsrc), ho, hroom, ?_⟩
      rw [hfun]
      have h1 : spl F (len * i.size) (0 * i.size) g = F := by rw [Nat.zero_mul]; funext q; rw [spl_out _ _ _ _ _ (by omega)]
      rw [h1]
      have h2 : L.set k ⟨pb, 0, cap * i.size, F, true⟩ = L := by
        obtain ⟨hk, hLk⟩ := List.getElem?_eq_some_iff.1 hL
        rw [← hLk]; exact List.set_getElem_self hk
      rw [h2]; exact hst
    · obtain ⟨b, hpb, ha⟩ : ∃ b, pb = some b ∧ a = some ⟨b, 0, none⟩ := by
        rcases ho with ⟨h1, _⟩ | h1
        · omega
        · exact h1
      subst hpb ha
      have hfit : len * i.size + n * i.size ≤ cap * i.size := by rw [← Nat.add_mul]; exact Nat.mul_le_mul_right _ hroom
      have hth := hst.thereR hL hfit
      refine ⟨_, some ⟨b, 0, none⟩, some b, cap, true, run_append_room_src w t t' ty el i hu hi b 0 len cap y n _ hsrc hroom (fun j hj => (hth j (by simpa using hj)).1) (fun j hj => (hth j (by simpa using hj)).2), .inr ⟨b, rfl, rfl⟩, hroom, ?_⟩
      rw [hfun]
      exact hst.setRange hL (n * i.size) hfit
  · have hcap := grownCap_ge w (len + n) cap el
    have hold : (Builtin.firstCells i.size len (.slice a len cap)).run P w.drew = .ok ((List.range (len * i.size)).map F).toArray w.drew := by
      by_cases h0 : len = 0
      · subst h0
        cases a with
        | none => simp [Builtin.firstCells]
        | some a => simp [Builtin.firstCells, loadCells]; rfl
      · obtain ⟨b, hpb, ha⟩ : ∃ b, pb = some b ∧ a = some ⟨b, 0, none⟩ := by
          rcases ho with ⟨h1, _⟩ | h1
          · omega
          · exact h1
        subst hpb ha
        simp only [Builtin.firstCells]
        refine run_loadCells w.drew ⟨b, 0, none⟩ (len * i.size) F (fun q hq => ?_)
        have hfit : len * i.size ≤ cap * i.size := Nat.mul_le_mul_right _ hlc
        obtain ⟨b', hp', hcell⟩ := hst.drew.mem hL q (show q < cap * i.size by omega)
        obtain rfl : b = b' := Option.some.inj hp'
        rw [Addr.add_mid]
        exact hcell
    have hfit := growslice_fits (need := len + n) (old := cap) (bytes := i.bytes) (by omega) (by rw [hby]; exact hb)
    have hr := run_append_grow_src (P := P) w t t' ty el i z hu hi hz a len cap _ hold y n _ hsrc (by omega) (by omega) hfit
    have hcm : (len + n) * i.size + (grownCap w (len + n) cap el - (len + n)) * i.size = grownCap w (len + n) cap el * i.size := by rw [← Nat.add_mul]; congr 1; omega
    have hln : (len + n) * i.size = len * i.size + n * i.size := Nat.add_mul _ _ _
    have hcat : (catL [(grownCap w (len + n) cap el * i.size, fun q => if false = true ∨ q < (len + n) * i.size then spl F (len * i.size) (n * i.size) g q else zf (q % i.size))]).toArray = ((List.range (len * i.size)).map F ++ (List.range (n * i.size)).map g).toArray ++ Builtin.zeroCells z.cells (grownCap w (len + n) cap el - (len + n)) := by
      apply Array.ext'
      apply List.ext_getElem?
      intro q
      rw [catL_one]
      have hzc : (Builtin.zeroCells z.cells (grownCap w (len + n) cap el - (len + n))).toList = (List.range ((grownCap w (len + n) cap el - (len + n)) * i.size)).map fun x => zf (x % i.size) := by
        unfold Builtin.zeroCells
        rw [hzs]
        simp only [Array.toList_map, Array.toList_range]
        refine List.map_congr_left fun x hx => ?_
        have hx := List.mem_range.1 hx
        have hpos : 0 < i.size := by
          rcases Nat.eq_zero_or_pos i.size with h0 | h0
          · rw [h0] at hx; omega
          · exact h0
        exact hzf _ (Nat.mod_lt _ hpos)
      simp only [Array.toList_append, hzc]
      by_cases h1 : q < len * i.size
      · rw [List.append_assoc, List.getElem?_append_left (by simpa using h1)]
        simp [show q < grownCap w (len + n) cap el * i.size by omega, h1, show q < (len + n) * i.size by omega, spl, show ¬ (len * i.size ≤ q ∧ q < len * i.size + n * i.size) by omega]
      · rw [List.append_assoc, List.getElem?_append_right (by simpa using h1)]
        by_cases h2 : q < (len + n) * i.size
        · rw [List.getElem?_append_left (by simp; omega)]
          simp [show q < grownCap w (len + n) cap el * i.size by omega, h2, spl, show len * i.size ≤ q ∧ q < len * i.size + n * i.size by omega, show q - len * i.size < n * i.size by omega]
        · rw [List.getElem?_append_right (by simp; omega)]
          by_cases h3 : q < grownCap w (len + n) cap el * i.size
          · have h4 : (q - len * i.size - n * i.size) % i.size = q % i.size := by
              have h5 : q = (q - len * i.size - n * i.size) + i.size * (len + n) := by rw [Nat.mul_comm i.size, hln]; omega
              conv => rhs; rw [h5]
              rw [Nat.add_mul_mod_self_left]
            simp [h3, h2, show q - len * i.size - n * i.size < (grownCap w (len + n) cap el - (len + n)) * i.size by omega, h4]
          · simp [h3, show ¬ (q - len * i.size - n * i.size < (grownCap w (len + n) cap el - (len + n)) * i.size) by omega]
    rw [← hcat] at hr
    refine ⟨_, some ⟨w.heap.size, 0, none⟩, some w.heap.size, grownCap w (len + n) cap el, false, hr, .inr ⟨_, rfl, rfl⟩, hcap, ?_⟩
    have := hst.drew.alloc [(grownCap w (len + n) cap el * i.size, fun q => if false = true ∨ q < (len + n) * i.size then spl F (len * i.size) (n * i.size) g q else zf (q % i.size))] el
    exact St.instead this hk

/-- what a slice out of a known range yields -/
theorem Src.ofL (hst : St B w0 L w) {t' e' : TypeId} (hk : P.underlying t' = some (.slice e')) {a : Option Addr} {ps : Option Nat} {os len cap offs ms js ks : Nat} {G : Nat → Value} {rw : Bool} (hL : L[ks]? = some ⟨ps, offs, ms, G, rw⟩) (hs : SlV a ps os len) (ho : os = offs + js) (hj : js + len ≤ ms) (h1 : ∀ q, q < len → (G (js + q)).oneCell' = true) :
    Src P 1 t' (.slice a len cap) len ((List.range (len * 1)).map fun q => G (js + q)) w :=
  ⟨.inl ⟨e', hk⟩, fun _ => rfl, by rw [Nat.mul_one]; exact run_firstCells hst hL hs ho (Nat.le_refl _) hj, by rw [Nat.mul_one]; exact run_firstCells hst.drew hL hs ho (Nat.le_refl _) hj, by simp, fun u hu => by
    obtain ⟨q, hq, rfl⟩ := List.mem_map.1 hu
    exact h1 q (by simpa using hq)⟩
end run

section step
variable {P : Program} {n : Nat} {K : Pend → Env → World → Prop} {l : List It} {O O' : Pend} {e : Env} {w : World} {i ty : Nat} {d : Tmp} {pos : String} {aft : Array Edge} {gd g : Option (Nat × Bool)}
variable {B : Nat} {w0 : World} {L L' : List Rg}

/-- append onto a slice of the call's own, elements of one cell of a kind -/
theorem Plan.appendU (hst : St B w0 L w) {t t' : TypeId} {x y : Operand} {s by' len cap m : Nat} {kd : IntKind} {a : Option Addr} {pb : Option Nat} {F G : Nat → BitVec s} {v : Value} (k : Nat) (he : elD P t = some (1, by', some (VU kd 0#s))) (hg : wantedE n e g = true)
    (hx : ev n e x = .slice a len cap) (hy : ev n e y = v) (hL : L[k]? = some ⟨pb, 0, cap, fun q => VU kd (F q), true⟩) (ho : OwnSl a pb cap) (hsrc : Src P 1 t' v m ((List.range (m * 1)).map fun q => VU kd (G q)) w) (hlc : len ≤ cap) (hb : (len + m) * by' ≤ 140737488355328) (h63 : len + m < 9223372036854775808)
    (hO : ∀ r, EffO aft O (L.set k r) O')
    (h : ∀ a' pb' cap' (F' : Nat → BitVec s) w', OwnSl a' pb' cap' → len + m ≤ cap' → (∀ q, q < len + m → F' q = spl F len m G q) → St B w0 (L.set k ⟨pb', 0, cap', fun q => VU kd (F' q), true⟩) w' → Plan P n K l O' (updO e (some d) (.slice a' (len + m) cap')) w') :
    Plan P n K (⟨i, false, ⟨some d, .call ⟨.builtin .append, #[x, y], #[t, t']⟩, ty, pos, aft, gd⟩, g⟩ :: l) O e w := by
  obtain ⟨w', a', pb', cap', ip, hr, ho', hcap, hst'⟩ := run_appendS (P := P) (ty := ty) (s := 1) (zf := fun _ => VU kd 0#s) hst (elB_of he) rfl (fun q hq => by cases Nat.lt_one_iff.1 hq; rfl) (by rw [Nat.mul_one]; exact hL) ho hsrc hlc hb h63
  have hfun : (fun q => if ip = true ∨ q < (len + m) * 1 then spl (fun q => VU kd (F q)) (len * 1) (m * 1) (fun q => VU kd (G q)) q else VU kd 0#s) = fun q => VU kd (if ip = true ∨ q < len + m then spl F len m G q else 0#s) := by
    funext q
    simp only [Nat.mul_one, ← spl_map]
    split <;> rfl
  rw [hfun, Nat.mul_one] at hst'
  refine Plan.effS hg (w' := w') (v := .slice a' (len + m) cap') (run_blt2 fun c => ?_) hst' (hO _) fun w' hw' => h a' pb' cap' _ w' ho' hcap (fun q hq => ?_) hw'
  · rw [hx, hy]
    simp only [builtin, Sem.run_bind, hr]
    rfl
  · rw [if_pos (.inr hq)]
end step
end Go.LW
