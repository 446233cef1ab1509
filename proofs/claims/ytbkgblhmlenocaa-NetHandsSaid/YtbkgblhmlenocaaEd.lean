import Derived.Test.YtbkgblhmlenocaaEc
import Derived.Maps.RangeRun
import Derived.WideKeyRuns
import Derived.MapKept
import Derived.Carry
import Derived.Shelf.SlSortCmp.NoneTotal
import Derived.Shelf.SlMaps.Clone
import Derived.Lib.SliceRun
namespace Go.LW
set_option linter.unusedSimpArgs false
set_option linter.unusedVariables false
set_option linter.unusedSectionVars false
open Go Go.RowKit
def fI {κ : Type} [DecidableEq κ] (k : κ) : List (κ × Value) → Nat → Option (Nat × Value)
 | [], _ => none
 | x :: l, i => if k = x.1 then some (i, x.2) else fI k l (i + 1)
structure KeyK (P : Program) (kt : TypeId) {κ : Type} [DecidableEq κ] (kv : κ → Value) : Prop where
 check : ∀ em k w, (Instr.checkKey em 10000 kt (kv k)).run P w = .ok () w
 find : ∀ k (l : List MapEntry) (ks : List κ) w, l.map (·.key) = ks.map kv → (Instr.findKey kt (kv k) l).run P w = .ok (fI k (ks.zip (l.map (·.val))) 0) w
 same : ∀ k, Instr.sameBits 10000 (kv k) (kv k) = true
section keys
variable {P : Program} {kt : TypeId}
theorem findNow_int {k : IntKind} (a : Int) : ∀ (l : List MapEntry) (ks : List Int) (i : Nat), l.map (·.key) = ks.map (Value.int k) → Instr.findNow (.int k) (.int k a) l i = some (fI a (ks.zip (l.map (·.val))) i)
 | [], ks, i, h => by
   obtain rfl : ks = [] := by simpa using h.symm
   rfl
 | e :: l, [], i, h => by simp at h
 | e :: l, q :: ks, i, h => by
   simp only [List.map_cons, List.cons.injEq] at h
   obtain ⟨h1, h2⟩ := h
   simp only [Instr.findNow, h1, Instr.sameNow, if_true, List.map_cons, List.zip_cons_cons, fI]
   by_cases hq : a = q
   · rw [if_pos hq]
     subst hq
     simp
   · rw [if_neg hq]
     have : (a == q) = false := by simpa using hq
     rw [this]
     exact findNow_int a l ks (i + 1) h2
theorem KeyK.int (h : intT P kt .i64 = true) : KeyK P kt (fun a : Int => .int .i64 a) where
 check := fun em k w => by
   have hu := intT_spec h
   unfold Instr.checkKey
   simp only [Sem.run_bind, run_underlying hu, Result.andThen]
   rfl
 find := fun k l ks w hk => by
   simp only [Instr.findKey, Sem.run_bind, run_underlying (intT_spec h), Result.andThen, findNow_int k l ks 0 hk]
   rfl
 same := fun k => by simp [Instr.sameBits]
theorem findAsking_ok {κ : Type} [DecidableEq κ] {kv : κ → Value} (he : ∀ a b w, (Op.equal kt (kv a) (kv b)).run P w = .ok (decide (a = b)) w) (a : κ) : ∀ (l : List MapEntry) (ks : List κ) (i : Nat) (w : World), l.map (·.key) = ks.map kv → (Instr.findAsking kt (kv a) l i).run P w = .ok (fI a (ks.zip (l.map (·.val))) i) w
 | [], ks, i, w, h => by
   obtain rfl : ks = [] := by simpa using h.symm
   rfl
 | e :: l, [], i, w, h => by simp at h
 | e :: l, q :: ks, i, w, h => by
   simp only [List.map_cons, List.cons.injEq] at h
   obtain ⟨h1, h2⟩ := h
   simp only [Instr.findAsking, Sem.run_bind, h1, he, Result.andThen, List.map_cons, List.zip_cons_cons, fI, decide_eq_true_eq]
   by_cases hq : a = q
   · rw [if_pos hq, if_pos hq]; rfl
   · rw [if_neg hq, if_neg hq]; exact findAsking_ok he a l ks (i + 1) w h2
def two32B (P : Program) (t ft : TypeId) : Bool := match P.underlying t with
 | some (.struct fs) => fs.size == 2 && (match fs[0]?, fs[1]? with
   | some f1, some f2 => f1.name != "_" && f2.name != "_" && f1.type == ft && f2.type == ft && f1.offset == 0 && f2.offset == 1
   | _, _ => false) && !P.stoodInHeld t
 | _ => false
@[reducible] def kv2 (p : BitVec 32 × BitVec 32) : Value := AG [(1, fun _ => VU .u32 p.1), (1, fun _ => VU .u32 p.2)]
theorem check_scalar {ft : TypeId} {k : IntKind} (hi : intT P ft k = true) (em : Bool) (n : Nat) (a : Int) (w : World) : (Instr.checkKey em (n + 1) ft (.int k a)).run P w = .ok () w := by
 unfold Instr.checkKey
 simp only [Sem.run_bind, run_underlying (intT_spec hi), Result.andThen]
 rfl
theorem intT_sc {ft : TypeId} {k : IntKind} (hi : intT P ft k = true) : scalarT P ft = true := by
 unfold scalarT; rw [intT_spec hi]
theorem KeyK.two {ft : TypeId} (hB : two32B P kt ft = true) (hi : intT P ft .u32 = true) : KeyK P kt kv2 := by
 have hsc := intT_sc hi
 unfold two32B at hB
 cases hu : P.underlying kt with
 | none => rw [hu] at hB; cases hB
 | some u =>
   rw [hu] at hB
   cases u <;> try (cases hB; done)
   rename_i fs
   obtain ⟨fs⟩ := fs
   match fs, hB with
   | [f1, f2], hB =>
     simp only [Bool.and_eq_true, beq_iff_eq, bne_iff_ne, ne_eq, Bool.not_eq_true', List.size_toArray, List.length_cons, List.length_nil, List.getElem?_toArray, List.getElem?_cons_zero, List.getElem?_cons_succ] at hB
     obtain ⟨⟨_, ⟨⟨⟨⟨hn1, hn2⟩, rfl⟩, ht2⟩, ho1⟩, ho2⟩, hst⟩ := hB
     have hF : fieldsB P kt [(f1.type, 0), (f1.type, 1)] = true := by
       unfold fieldsB; rw [hu]
       simp [ho1, ho2, ht2, hst, hn1, hn2]
     have heq : ∀ a b w, (Op.equal kt (kv2 a) (kv2 b)).run P w = .ok (decide (a = b)) w := fun a b w => by
       have h := EqV.struct (d := 9999) (ps := [(1, fun _ => VU .u32 a.1), (1, fun _ => VU .u32 a.2)]) (qs := [(1, fun _ => VU .u32 b.1), (1, fun _ => VU .u32 b.2)]) hF (.one [] [(1, fun _ => VU .u32 a.2)] [] [(1, fun _ => VU .u32 b.2)] (fun _ => VU .u32 a.1) (fun _ => VU .u32 b.1) rfl rfl rfl rfl hsc rfl rfl (EqV.u (d := 9998) (a := a.1) (b := b.1) hi) (.one [(1, fun _ => VU .u32 a.1)] [] [(1, fun _ => VU .u32 b.1)] [] (fun _ => VU .u32 a.2) (fun _ => VU .u32 b.2) rfl rfl rfl rfl hsc rfl rfl (EqV.u (d := 9998) (a := a.2) (b := b.2) hi) .nil)) w
       have e : (decide (a.1 = b.1) && (decide (a.2 = b.2) && true)) = decide (a = b) := by
         rw [Bool.and_true, Bool.eq_iff_iff, Bool.and_eq_true, decide_eq_true_iff, decide_eq_true_iff, decide_eq_true_iff, Prod.ext_iff]
       rw [e] at h
       exact h
     refine ⟨fun em k w => ?_, fun k l ks w hk => ?_, fun k => ?_⟩
     · unfold Instr.checkKey
       have p1 : (part f1.type (catL [(1, fun _ => VU .u32 k.1), (1, fun _ => VU .u32 k.2)]).toArray 0).run P w = .ok (VU .u32 k.1) w := run_partS (A := []) (C := [(1, fun _ => VU .u32 k.2)]) (F := fun _ => VU .u32 k.1) hsc rfl rfl w
       have p2 : (part f1.type (catL [(1, fun _ => VU .u32 k.1), (1, fun _ => VU .u32 k.2)]).toArray 1).run P w = .ok (VU .u32 k.2) w := run_partS (A := [(1, fun _ => VU .u32 k.1)]) (C := []) (F := fun _ => VU .u32 k.2) hsc rfl rfl w
       simp only [Sem.run_bind, run_underlying hu, Result.andThen, kv2, AG]
       simp only [List.forIn_toArray, List.forIn_cons, List.forIn_nil, ho1, ho2, ht2, hn1, hn2, ne_eq, not_false_eq_true, if_true, Sem.run_bind, p1, p2, check_scalar hi em, Result.andThen, Sem.run_pure]
     · rw [run_findKey_eq w (by rw [hu]) (kv2 k) l]
       exact findAsking_ok heq k l ks 0 w hk
     · simp [Instr.sameBits, kv2, AG, catL]
end keys
end Go.LW
namespace Go.LW
set_option linter.unusedSimpArgs false
set_option linter.unusedVariables false
set_option linter.unusedSectionVars false
open Go Go.RowKit
section worlds
variable {B : Nat} {w0 : Base} {w w' : World} {L : List Rg}
theorem St.drewN (h : St B w0 L w) (m : Nat) : St B w0 L (w.drewN m) :=
 h.later ⟨⟨rfl, rfl, rfl, Nat.le_refl _, fun _ _ => rfl⟩, Nat.le_add_right _ _⟩
theorem St.grow (h : St B w0 L w) (os : Array Obj) : St B w0 L (Sort.grow w os) :=
 h.later ⟨⟨rfl, rfl, rfl, by rw [Sort.size_grow]; exact Nat.le_add_right _ _, fun k hk => by
   show (w.heap ++ os)[k]? = _
   rw [Array.getElem?_append_left hk]⟩, Nat.le_refl _⟩
theorem Blw.grown (h : Blw w.heap.size w w') : ∃ q os, w' = Sort.grow (w.drewN q) os := by
 refine ⟨w'.drawn - w.drawn, w'.heap.extract w.heap.size w'.heap.size, ?_⟩
 have h1 := h.os; have h2 := h.tape; have h3 := h.output; have h4 := h.drawn; have h5 := h.block; have h6 := h.size
 obtain ⟨heap, out, os, tape, drawn⟩ := w
 obtain ⟨heap', out', os', tape', drawn'⟩ := w'
 dsimp only at h1 h2 h3 h4 h5 h6
 subst h1 h2 h3
 unfold Sort.grow World.drewN
 dsimp only
 congr 1
 · apply Array.ext_getElem?
   intro k
   by_cases hk : k < heap.size
   · rw [Array.getElem?_append_left hk]; exact h5 k hk
   · rw [Array.getElem?_append_right (by omega), Array.getElem?_extract]
     by_cases hk2 : k < heap'.size
     · rw [if_pos (by omega)]; congr 1; omega
     · rw [if_neg (by omega), Array.getElem?_eq_none (by omega)]
 · omega
end worlds
section sort
variable {D : EL} {L0 : List Rg}
theorem pickB {F : Nat → Value} : ∀ (X : List D.α) (o : Nat), (∀ j x, X[j]? = some x → D.cells L0 (fun k => F ((o + j) * D.sz + k)) x) →
   ∃ Y : List {p : D.β × D.α // D.side L0 p.1 p.2}, Y.map (fun p => p.1.2) = X ∧ ∀ j p, Y[j]? = some p → ∀ k v, (catL (D.E p.1.1 p.1.2))[k]? = some v → F ((o + j) * D.sz + k) = v
 | [], _, _ => ⟨[], rfl, fun j p hp => by simp at hp⟩
 | x :: X, o, h => by
   obtain ⟨b, h1, h2⟩ := h 0 x rfl
   obtain ⟨Y, h3, h4⟩ := pickB X (o + 1) (fun j y hy => by
     have := h (j + 1) y hy
     rw [show o + 1 + j = o + (j + 1) by omega]; exact this)
   refine ⟨⟨(b, x), h1⟩ :: Y, by rw [List.map_cons, h3], fun j p hp k v hv => ?_⟩
   cases j with
   | zero =>
     rw [List.getElem?_cons_zero] at hp
     obtain rfl := Option.some.inj hp
     exact h2 k v hv
   | succ j =>
     rw [List.getElem?_cons_succ] at hp
     have := h4 j p hp k v hv
     rw [show o + 1 + j = o + (j + 1) by omega] at this; exact this
theorem St.putRowK {B : Nat} {w0 : Base} {w : World} {L : List Rg} {α : Type} [Inhabited α] (hst : St B w0 L w) {kk b c k : Nat} {F : Nat → Value} (hL : L[kk]? = some ⟨some b, 0, c, F, true⟩) (enc : α → List Value) (d dk : Array α) (hH : Sort.HoldsK enc k w b 0 d) (hs : dk.size = d.size) (hc : d.size * k ≤ c) :
   St B w0 (L.set kk ⟨some b, 0, c, fun q => if q < dk.size * k then (Sort.flatK enc k dk)[q]! else F q, true⟩) (Sort.putRowK enc k w b 0 dk) := by
 have h1 := hst.setAll (f' := fun q => (Sort.flatK enc k dk)[q]!) hL (dk.size * k) (by rw [hs]; exact hc)
 have hl : ((List.range (dk.size * k)).map fun q => (Sort.flatK enc k dk)[q]!).length = dk.size * k := by simp
 have e : Sort.putRowK enc k w b 0 dk = w.setCells b 0 ((List.range (dk.size * k)).map fun q => (Sort.flatK enc k dk)[q]!) := by
   have h2 := Sort.setCells_putRow w b 0 ((List.range (dk.size * k)).map fun q => (Sort.flatK enc k dk)[q]!) 0 (Sort.flatK enc k d) (by rw [hl, Sort.size_flatK, hs]; omega)
   have h3 : Sort.putRow id w b 0 (Sort.flatK enc k d) = w := Sort.putRowK_self enc k w b 0 d hH
   rw [h3] at h2
   rw [h2]
   show Sort.putRow id w b 0 (Sort.flatK enc k dk) = _
   congr 1
   refine Sort.ext_get! (by rw [Sort.size_setMany, Sort.size_flatK, Sort.size_flatK, hs]) fun t ht => ?_
   rw [Sort.size_flatK] at ht
   rw [Sort.get_setMany _ _ _ t (by rw [Sort.size_flatK, ← hs]; exact ht), if_pos ⟨Nat.zero_le _, by rw [hl]; omega⟩]
   simp [ht]
 rw [e]
 exact h1
theorem flat_at {α : Type} [Inhabited α] (enc : α → List Value) {k : Nat} (dk : Array α) {j q : Nat} (hj : j < dk.size) (hq : q < k) : (Sort.flatK enc k dk)[j * k + q]! = (enc dk[j]!)[q]! := by
 have h1 : j * k + q < dk.size * k := by
   have : (j + 1) * k ≤ dk.size * k := Nat.mul_le_mul_right _ hj
   rw [Nat.succ_mul] at this; omega
 rw [Sort.get_flatK enc k dk _ h1]
 have h2 : (j * k + q) / k = j := by rw [Nat.mul_comm, Nat.mul_add_div (by omega), Nat.div_eq_of_lt hq, Nat.add_zero]
 have h3 : (j * k + q) % k = q := by rw [Nat.mul_comm, Nat.mul_add_mod, Nat.mod_eq_of_lt hq]
 rw [h2, h3]
theorem set_sameL {α : Type} {L : List α} {k : Nat} {r : α} (h : L[k]? = some r) : L.set k r = L := List.ext_getElem? fun i => by
 rw [List.getElem?_set]
 by_cases hk : k = i
 · subst hk; rw [if_pos rfl, if_pos (List.getElem?_eq_some_iff.1 h).1, h]
 · rw [if_neg hk]
variable {P : Program} {ρ : Shelf.Ren} {B : Nat} {w0 : Base} {w : World} {L : List Rg}
theorem sortFn_ok (LY : Proofs.SlLaysF0.n6 P ρ) (aE : ∀ w, (isAgg (ρ.t 24)).run P w = .ok true w) (zE : ∀ w, (Go.sizeOf (ρ.t 24)).run P w = .ok D.sz w) {g : Nat} (eg : ∀ args w, (callFunc g args).run P w = .ok (.enter g args) w)
   {a : Option Addr} {pb : Option Nat} {len cap kk : Nat} {F : Nat → Value} {X : List D.α} (hst : St B w0 L w) (hO : LO D L0 a pb len cap F X) (hL : L[kk]? = some ⟨pb, 0, cap * D.sz, F, true⟩) (cf : D.α → D.α → Int) (hsw : Sort.SWO (Proofs.ltOf cf))
   (hval : ∀ b x, D.val b x = AG (D.E b x))
   (hcmp : ∀ (B : Nat) (w0 : Base) (L' : List Rg) (w : World) b1 x1 b2 x2, St B w0 L' w → D.side L' b1 x1 → D.side L' b2 x2 → Calls P g #[D.val b1 x1, D.val b2 x2] w fun e w' => e = .returned (.int .i64 (cf x1 x2)) ∧ St B w0 L' w')
   (hs : ∀ b x r, D.side L0 b x → D.side ((L.set kk r).map Rg.ro) b x) (hlen : len < 4611686018427387904) (hz : 0 < D.sz) :
   Calls P (ρ.f 6) #[.slice a len cap, .func (.func g) #[] #[]] w fun e w' => e = .returned (.tuple #[]) ∧ ∃ X' F', X'.Perm X ∧ X'.Pairwise (fun x y => ¬ cf y x < 0) ∧ LO D L0 a pb len cap F' X' ∧ St B w0 (L.set kk ⟨pb, 0, cap * D.sz, F', true⟩) w' := by
 have hll : kk < L.length := (List.getElem?_eq_some_iff.1 hL).1
 by_cases h0 : len = 0
 · subst h0
   refine (Proofs.AnyF.slices_SortFunc_none LY a cap _ w).mono ?_
   rintro e w' ⟨rfl, rfl⟩
   have hX : X = [] := List.length_eq_zero_iff.1 hO.hl
   subst hX
   exact ⟨rfl, [], F, .refl _, .nil, hO, by rw [set_sameL hL]; exact hst⟩
 obtain ⟨b, rfl, rfl⟩ := hO.ho.pos (by have := hO.hc; omega)
 obtain ⟨Y, hY, hYc⟩ := pickB (F := F) X 0 (fun j x hx => by rw [Nat.zero_add]; exact hO.hF j x hx)
 have hYl : Y.length = len := by rw [← hO.hl, ← hY, List.length_map]
 cases Y with
 | nil => exact absurd hYl (by simp; omega)
 | cons y0 Y0 =>
 generalize hYY : y0 :: Y0 = Y at *
 haveI : Inhabited {p : D.β × D.α // D.side L0 p.1 p.2} := ⟨y0⟩
 let enc : {p : D.β × D.α // D.side L0 p.1 p.2} → List Value := fun p => catL (D.E p.1.1 p.1.2)
 have hk : ∀ x, (enc x).length = D.sz := fun x => D.hlen _ _
 have h1 : ∀ x, ∀ v ∈ enc x, v.oneCell' = true := fun x v hv => D.one _ _ v hv
 have hcap : Y.toArray.size * D.sz ≤ cap * D.sz := Nat.mul_le_mul_right _ (by rw [List.size_toArray, hYl]; exact hO.hc)
 have hmem := List.mem_of_getElem? hL
 have hH : Sort.HoldsK enc D.sz w b 0 Y.toArray := fun q hq => by
   rw [Sort.size_flatK] at hq
   obtain ⟨b', hp, hc⟩ := hst.at_ _ hmem q (by show q < cap * D.sz; omega)
   obtain rfl : b = b' := Option.some.inj hp
   obtain ⟨b', hp, _, hf⟩ := hst.free _ hmem rfl q (by show q < cap * D.sz; omega)
   obtain rfl : b = b' := Option.some.inj hp
   refine ⟨?_, hf⟩
   rw [hc]
   congr 1
   have hj : q / D.sz < Y.length := by
     rw [List.size_toArray] at hq
     exact Nat.div_lt_of_lt_mul (by rw [Nat.mul_comm]; exact hq)
   have hm : q % D.sz < D.sz := Nat.mod_lt _ hz
   have e : q = q / D.sz * D.sz + q % D.sz := by rw [Nat.mul_comm]; exact (Nat.div_add_mod q D.sz).symm
   have hj2 : q / D.sz < Y.toArray.size := by rw [List.size_toArray]; exact hj
   show F q = (Sort.flatK enc D.sz Y.toArray)[q]!
   rw [Sort.get_flatK enc D.sz Y.toArray q hq]
   have h3 := hYc (q / D.sz) Y[q / D.sz] (List.getElem?_eq_getElem hj) (q % D.sz) (enc Y.toArray[q / D.sz]!)[q % D.sz]! (by
     rw [getElem!_pos Y.toArray _ hj2, List.getElem_toArray]
     have h4 : q % D.sz < (enc Y[q / D.sz]).length := by rw [hk]; exact hm
     rw [getElem!_pos (enc Y[q / D.sz]) (q % D.sz) h4]
     exact List.getElem?_eq_getElem h4)
   rw [Nat.zero_add, ← e] at h3
   exact h3
 have hblk : b < w.heap.size := by
   obtain ⟨b', hp, hc⟩ := hst.at_ _ hmem 0 (by
     show 0 < cap * D.sz
     have := hO.hc
     exact Nat.mul_pos (by omega) hz)
   obtain rfl : b = b' := Option.some.inj hp
   exact block_lt_of_cell hc
 have hW : ∀ m os (dk : Array {p : D.β × D.α // D.side L0 p.1 p.2}), dk.size = Y.toArray.size → St B w0 (L.set kk ⟨some b, 0, cap * D.sz, fun q => if q < dk.size * D.sz then (Sort.flatK enc D.sz dk)[q]! else F q, true⟩) (Proofs.sortWorldK enc D.sz w b 0 m dk os) := fun m os dk hdk =>
   ((hst.drewN m).putRowK hL enc Y.toArray dk hH hdk hcap).grow os
 have hcmp' : Proofs.CmpLays P g #[] enc D.sz (fun p q => cf p.1.2 q.1.2) b 0 Y.toArray.size w := fun m os dk hdk x y => by
   have h2 := (hW m os dk hdk).asro
   have h3 := hcmp _ _ _ _ x.1.1 x.1.2 y.1.1 y.1.2 h2 (hs _ _ _ x.2) (hs _ _ _ y.2)
   rw [hval, hval] at h3
   refine h3.mono fun e w' ⟨he, hw⟩ => ⟨he, hw.below.toBlw.grown⟩
 have hsw' : Sort.SWO (Proofs.ltOf fun p q : {p : D.β × D.α // D.side L0 p.1 p.2} => cf p.1.2 q.1.2) := ⟨fun x => hsw.irrefl _, fun x y z => hsw.trans _ _ _, fun x y z => hsw.ntrans _ _ _⟩
 have hmain := Proofs.AnyQ.slices_SortFunc LY D.sz aE zE enc hk h1 (fun p q => cf p.1.2 q.1.2) hsw' g #[] b 0 cap Y.toArray w eg hcmp' hH hblk (by rw [List.size_toArray, hYl]; exact hlen)
 rw [List.size_toArray, hYl] at hmain
 refine hmain.mono ?_
 rintro e w' ⟨rfl, d', n, os, hp, hso, rfl⟩
 have hds : d'.size = Y.toArray.size := hp.1
 have hdl : d'.size = len := by rw [hds, List.size_toArray, hYl]
 have hpt := hp.2.2
 have e1 : (d'.extract 0 len).toList = d'.toList := by rw [← hdl, Array.extract_size]
 have e2 : (Y.toArray.extract 0 len).toList = Y := by
   have : len = Y.toArray.size := by rw [List.size_toArray, hYl]
   rw [this, Array.extract_size]
 rw [e1, e2] at hpt
 refine ⟨rfl, d'.toList.map (fun p => p.1.2), _, ?_, ?_, ?_, hW n os d' hds⟩
 · rw [← hY]; exact hpt.map _
 · rw [List.pairwise_map, List.pairwise_iff_getElem]
   intro i j hi hj hij
   rw [Array.length_toList] at hi hj
   have := hso i j (Nat.zero_le _) hij (by omega)
   rw [getElem!_pos d' i hi, getElem!_pos d' j hj] at this
   simp only [Proofs.ltOf, decide_eq_false_iff_not] at this
   rw [Array.getElem_toList, Array.getElem_toList]
   exact this
 · refine ⟨hO.ho, hO.hc, by rw [List.length_map, Array.length_toList, hdl], fun j x hx => ?_, fun q hq => ?_⟩
   · rw [List.getElem?_map] at hx
     cases hd : d'.toList[j]? with
     | none => rw [hd] at hx; cases hx
     | some p =>
       rw [hd] at hx
       obtain rfl := Option.some.inj hx
       have hj : j < d'.size := by rw [← Array.length_toList]; exact (List.getElem?_eq_some_iff.1 hd).1
       have hpj : d'[j]! = p := by
         rw [getElem!_pos d' j hj, ← Array.getElem_toList]; exact (List.getElem?_eq_some_iff.1 hd).2
       refine ⟨p.1.1, p.2, fun k v hv => ?_⟩
       have hk2 : k < D.sz := by rw [← D.hlen p.1.1 p.1.2]; exact (List.getElem?_eq_some_iff.1 hv).1
       have hlt : j * D.sz + k < d'.size * D.sz := by
         have : (j + 1) * D.sz ≤ d'.size * D.sz := Nat.mul_le_mul_right _ hj
         rw [Nat.succ_mul] at this; omega
       show (if j * D.sz + k < d'.size * D.sz then _ else _) = v
       rw [if_pos hlt, flat_at enc d' hj hk2, hpj]
       have h4 : k < (enc p).length := by rw [hk]; exact hk2
       rw [getElem!_pos (enc p) k h4]
       exact (List.getElem?_eq_some_iff.1 hv).2
   · show D.ck (if q < d'.size * D.sz then _ else _)
     by_cases hq2 : q < d'.size * D.sz
     · rw [if_pos hq2]
       have hm : q % D.sz < D.sz := Nat.mod_lt _ hz
       have hj : q / D.sz < d'.size := Nat.div_lt_of_lt_mul (by rw [Nat.mul_comm]; exact hq2)
       have e : q = q / D.sz * D.sz + q % D.sz := by rw [Nat.mul_comm]; exact (Nat.div_add_mod q D.sz).symm
       rw [Sort.get_flatK enc D.sz d' q hq2]
       have h4 : q % D.sz < (enc d'[q / D.sz]!).length := by rw [hk]; exact hm
       rw [getElem!_pos (enc d'[q / D.sz]!) (q % D.sz) h4]
       exact D.ckE _ _ _ (List.getElem_mem h4)
     · rw [if_neg hq2]; exact hO.hK q hq
end sort
end Go.LW
namespace Go.LW
set_option linter.unusedSimpArgs false
set_option linter.unusedVariables false
set_option linter.unusedSectionVars false
set_option linter.unusedSectionVars false
open Go Go.RowKit
section plain
variable {κ α : Type} [DecidableEq κ]
def mget (k : κ) : List (κ × α) → Option α
 | [] => none
 | p :: X => if k = p.1 then some p.2 else mget k X
def mset (k : κ) (v : α) : List (κ × α) → List (κ × α)
 | [] => [(k, v)]
 | p :: X => if k = p.1 then (k, v) :: X else p :: mset k v X
def mdel (k : κ) : List (κ × α) → List (κ × α)
 | [] => []
 | p :: X => if k = p.1 then X else p :: mdel k X
end plain
@[reducible] def kvI (a : Int) : Value := .int .i64 a
section held
variable {κ : Type} [DecidableEq κ] (kv : κ → Value) (D : EL)
abbrev ZE (κ : Type) (D : EL) := Nat × κ × D.β × D.α
def entZ (z : ZE κ D) : MapEntry := { key := kv z.2.1, val := D.val z.2.2.1 z.2.2.2, born := z.1 }
def prj (z : ZE κ D) : κ × D.α := (z.2.1, z.2.2.2)
structure MOK (L : List Rg) (X : List (κ × D.α)) (Z : List (ZE κ D)) (c : Nat) : Prop where
 hX : Z.map (prj D) = X
 side : ∀ z ∈ Z, D.side L z.2.2.1 z.2.2.2
 nd : (Z.map (·.2.1)).Nodup
 bn : (Z.map (·.1)).Nodup
 lt : ∀ z ∈ Z, z.1 < c
def mapR (L : List Rg) (m : Nat) (X : List (κ × D.α)) : MR := ⟨m, fun o => ∃ (Z : List (ZE κ D)) (c : Nat), o = .map (Z.map (entZ kv D)).toArray c ∧ MOK D L X Z c⟩
end held
section find
variable {κ : Type} [DecidableEq κ] {kv : κ → Value} {D : EL}
theorem keys_ent (Z : List (ZE κ D)) : (Z.map (entZ kv D)).map (·.key) = (Z.map (·.2.1)).map kv := by
 simp [List.map_map, Function.comp_def, entZ]
theorem fI_none {k : κ} (x : D.α) : ∀ (Z : List (ZE κ D)) (i : Nat), fI k ((Z.map (·.2.1)).zip ((Z.map (entZ kv D)).map (·.val))) i = none →
   mget k (Z.map (prj D)) = none ∧ mset k x (Z.map (prj D)) = Z.map (prj D) ++ [(k, x)] ∧ mdel k (Z.map (prj D)) = Z.map (prj D) ∧ k ∉ Z.map (·.2.1)
 | [], i, h => ⟨rfl, rfl, rfl, by simp⟩
 | z :: Z, i, h => by
   simp only [List.map_cons, List.zip_cons_cons, fI] at h
   by_cases hk : k = z.2.1
   · rw [if_pos hk] at h; cases h
   · rw [if_neg hk] at h
     obtain ⟨h1, h2, h3, h4⟩ := fI_none x Z (i + 1) h
     refine ⟨?_, ?_, ?_, ?_⟩
     · simp only [List.map_cons, mget, prj, if_neg hk]; exact h1
     · simp only [List.map_cons, mset, prj, if_neg hk, List.cons_append]; exact congrArg _ h2
     · simp only [List.map_cons, mdel, prj, if_neg hk]; exact congrArg _ h3
     · simp only [List.map_cons, List.mem_cons, not_or]; exact ⟨hk, h4⟩
theorem fI_some {k : κ} (b : D.β) (x : D.α) : ∀ (Z : List (ZE κ D)) (i j : Nat) (v : Value), fI k ((Z.map (·.2.1)).zip ((Z.map (entZ kv D)).map (·.val))) i = some (j, v) →
   i ≤ j ∧ (∃ z, Z[j - i]? = some z ∧ z.2.1 = k ∧ v = D.val z.2.2.1 z.2.2.2 ∧ mget k (Z.map (prj D)) = some z.2.2.2) ∧
   (Z.modify (j - i) fun z => (z.1, k, b, x)).map (prj D) = mset k x (Z.map (prj D)) ∧ (Z.modify (j - i) fun z => (z.1, k, b, x)).map (·.2.1) = Z.map (·.2.1) ∧
   (Z.eraseIdx (j - i)).map (prj D) = mdel k (Z.map (prj D))
 | [], i, j, v, h => by cases h
 | z :: Z, i, j, v, h => by
   simp only [List.map_cons, List.zip_cons_cons, fI] at h
   by_cases hk : k = z.2.1
   · rw [if_pos hk] at h
     obtain ⟨rfl, rfl⟩ := Prod.mk.injEq .. ▸ Option.some.inj h
     refine ⟨Nat.le_refl _, ⟨z, by rw [Nat.sub_self]; rfl, hk.symm, rfl, ?_⟩, ?_, ?_, ?_⟩
     · simp [mget, prj, hk]
     · simp [Nat.sub_self, mset, prj, hk]
     · simp [Nat.sub_self, hk]
     · simp [Nat.sub_self, mdel, prj, hk]
   · rw [if_neg hk] at h
     obtain ⟨h1, ⟨y, h2, h3, h4, h5⟩, h6, h7, h8⟩ := fI_some b x Z (i + 1) j v h
     have e : j - i = j - (i + 1) + 1 := by omega
     refine ⟨by omega, ⟨y, by rw [e]; exact h2, h3, h4, ?_⟩, ?_, ?_, ?_⟩
     · simp only [List.map_cons, mget, prj, if_neg hk]; exact h5
     · rw [e, List.modify_succ_cons]; simp only [List.map_cons, mset, prj, if_neg hk]; exact congrArg _ h6
     · rw [e, List.modify_succ_cons]; simp only [List.map_cons]; exact congrArg _ h7
     · rw [e, List.eraseIdx_cons_succ]; simp only [List.map_cons, mdel, prj, if_neg hk]; exact congrArg _ h8
theorem modify_ent (Z : List (ZE κ D)) (i : Nat) (k : κ) (b : D.β) (x : D.α) : ((Z.map (entZ kv D)).toArray.modify i fun e => { e with key := kv k, val := D.val b x }) = ((Z.modify i fun z => (z.1, k, b, x)).map (entZ kv D)).toArray := by
 apply Array.ext'
 rw [Array.toList_modify]
 apply List.ext_getElem?
 intro j
 simp only [List.getElem?_modify, List.getElem?_map]
 cases Z[j]? with
 | none => rfl
 | some z => by_cases hj : i = j <;> simp [hj, entZ]
theorem erase_map {α β : Type} (f : α → β) : ∀ (l : List α) (i : Nat), (l.map f).eraseIdx i = (l.eraseIdx i).map f
 | [], _ => rfl
 | _ :: _, 0 => rfl
 | x :: l, i + 1 => by simp only [List.map_cons, List.eraseIdx_cons_succ, erase_map f l i]
theorem erase_ent (Z : List (ZE κ D)) (i : Nat) : ((Z.map (entZ kv D)).toArray.eraseIdxIfInBounds i) = ((Z.eraseIdx i).map (entZ kv D)).toArray := by
 apply Array.ext'
 unfold Array.eraseIdxIfInBounds
 split
 · rw [Array.toList_eraseIdx]; exact erase_map _ _ _
 · rename_i h
   rw [List.eraseIdx_of_length_le (by simpa using h)]
end find
section st
variable {B : Nat} {w0 : Base} {w : World} {L : List Rg} {N : List MR}
theorem St.newMR (h : St B (w0.on N) L w) {o : Obj} (ho : keptO o = true) {r : MR} (hm : r.m = w.heap.size) (hok : r.ok o) : St B (w0.on (r :: N)) L (w.alloc o) := by
 have hb : Blw w.heap.size w (w.alloc o) := (Blw.refl _ _).alloc (Nat.le_refl _) _
 have h' := h.later hb
 refine ⟨⟨h'.below.toBlw, fun s hs => ?_, ?_⟩, h'.base, h'.at_, h'.free, h'.apart⟩
 · rcases List.mem_cons.1 hs with rfl | hs
   · exact ⟨hm ▸ h.base, o, ho, by rw [hm]; exact heap_alloc_new _ _, hok⟩
   · exact h'.below.maps s hs
 · refine List.pairwise_cons.2 ⟨fun s hs he => ?_, h'.below.mdis⟩
   have := MR.at_lt (h.below.maps s hs).2
   omega
theorem cell_setObj {w : World} {m : Nat} {o o' : Obj} (hk : w.heap[m]? = some o) (ho : keptO o = true) (ho' : keptO o' = true) (a : Addr) : ({ w with heap := w.heap.setIfInBounds m o' } : World).cell? a = w.cell? a := by
 unfold World.cell?
 show (match (w.heap.setIfInBounds m o')[a.block]? with | _ => _) = _
 rw [Array.getElem?_setIfInBounds]
 by_cases hb : m = a.block
 · subst hb
   have hlt := (Array.getElem?_eq_some_iff.1 hk).1
   rw [if_pos rfl, if_pos hlt, hk]
   cases o <;> first | (cases ho; done) | (cases o' <;> first | (cases ho'; done) | rfl)
 · rw [if_neg hb]
theorem frozen_setObj {w : World} {m : Nat} {o o' : Obj} (hk : w.heap[m]? = some o) (ho : keptO o = true) (ho' : keptO o' = true) (a : Addr) : ({ w with heap := w.heap.setIfInBounds m o' } : World).frozen? a = w.frozen? a := by
 unfold World.frozen?
 show (match (w.heap.setIfInBounds m o')[a.block]? with | _ => _) = _
 rw [Array.getElem?_setIfInBounds]
 by_cases hb : m = a.block
 · subst hb
   have hlt := (Array.getElem?_eq_some_iff.1 hk).1
   rw [if_pos rfl, if_pos hlt, hk]
   cases o <;> first | (cases ho; done) | (cases o' <;> first | (cases ho'; done) | rfl)
 · rw [if_neg hb]
theorem St.setMR (h : St B (w0.on N) L w) {i : Nat} {r r' : MR} (hN : N[i]? = some r) (hm : r'.m = r.m) {o o' : Obj} (hk : w.heap[r.m]? = some o) (ho : keptO o = true) (ho' : keptO o' = true) (hok : r'.ok o') :
   St B (w0.on (N.set i r')) L { w with heap := w.heap.setIfInBounds r.m o' } := by
 have hmem : r ∈ (w0.on N).M := List.mem_append_left _ (List.mem_of_getElem? hN)
 have hlt := (Array.getElem?_eq_some_iff.1 hk).1
 have hset : (w0.on (N.set i r')).M = (w0.on N).M.set i r' := by
   show N.set i r' ++ w0.M = (N ++ w0.M).set i r'
   rw [List.set_append_left _ _ (List.getElem?_eq_some_iff.1 hN).1]
 have hi : (w0.on N).M[i]? = some r := by
   show (N ++ w0.M)[i]? = _
   rw [List.getElem?_append_left (List.getElem?_eq_some_iff.1 hN).1]; exact hN
 have hheap : ∀ k, k ≠ r.m → (w.heap.setIfInBounds r.m o')[k]? = w.heap[k]? := fun k hk => by rw [Array.getElem?_setIfInBounds, if_neg (Ne.symm hk)]
 refine ⟨⟨h.below.toBlw.trans ⟨⟨rfl, rfl, rfl, by simp, fun k hk' => hheap k ?_⟩, Nat.le_refl _⟩, fun s hs => ?_, ?_⟩, by simpa using h.base, fun s hs j hj => ?_, fun s hs hw j hj => ?_, h.apart⟩
 · have := (h.below.maps r hmem).1
   omega
 · rw [hset] at hs
   obtain ⟨j, hj, hs'⟩ := List.getElem_of_mem hs
   rw [List.getElem_set] at hs'
   by_cases hij : i = j
   · rw [if_pos hij] at hs'
     subst hs'
     refine ⟨hm ▸ (h.below.maps r hmem).1, o', ho', ?_, hok⟩
     rw [hm]
     show (w.heap.setIfInBounds r.m o')[r.m]? = _
     rw [Array.getElem?_setIfInBounds, if_pos rfl, if_pos hlt]
   · rw [if_neg hij] at hs'
     have hj' : j < (w0.on N).M.length := by simpa using hj
     have hs2 : s ∈ (w0.on N).M := hs' ▸ List.getElem_mem hj'
     have hne : s.m ≠ r.m := by
       have hi' := (List.getElem?_eq_some_iff.1 hi)
       rcases Nat.lt_or_ge i j with hlt | hge
       · have := List.pairwise_iff_getElem.1 h.below.mdis i j hi'.1 hj' hlt
         rw [hi'.2, hs'] at this; exact Ne.symm this
       · have := List.pairwise_iff_getElem.1 h.below.mdis j i hj' hi'.1 (by omega)
         rw [hi'.2, hs'] at this; exact this
     exact ⟨(h.below.maps s hs2).1, MR.at_block (h.below.maps s hs2).2 (hheap s.m hne)⟩
 · rw [hset, List.pairwise_iff_getElem]
   intro x y hx hy hxy
   have hx' : x < (w0.on N).M.length := by simpa using hx
   have hy' : y < (w0.on N).M.length := by simpa using hy
   have h0 := List.pairwise_iff_getElem.1 h.below.mdis x y hx' hy' hxy
   have hi' := (List.getElem?_eq_some_iff.1 hi)
   rw [List.getElem_set, List.getElem_set]
   by_cases hix : i = x
   · subst hix
     rw [if_pos rfl, if_neg (by omega), hm]
     rw [hi'.2] at h0; exact h0
   · rw [if_neg hix]
     by_cases hiy : i = y
     · subst hiy
       rw [if_pos rfl, hm]
       rw [hi'.2] at h0; exact h0
     · rw [if_neg hiy]; exact h0
 · obtain ⟨b, hp, hc⟩ := h.at_ s hs j hj
   exact ⟨b, hp, by rw [cell_setObj hk ho ho']; exact hc⟩
 · obtain ⟨b, hp, hB, hc⟩ := h.free s hs hw j hj
   exact ⟨b, hp, hB, by rw [frozen_setObj hk ho ho']; exact hc⟩
theorem St.mr (h : St B (w0.on N) L w) {i : Nat} {r : MR} (hN : N[i]? = some r) : r.at w := (h.below.maps r (List.mem_append_left _ (List.mem_of_getElem? hN))).2
theorem St.mpick (h : St B (w0.on N) L w) (is : List Nat) (hn : is.Nodup) {N' : List MR} (hN : is.map (N[·]?) = N'.map some) : St B (w0.on N') L w := by
 have hmem : ∀ s ∈ N', s ∈ N := fun s hs => by
   have : some s ∈ is.map (N[·]?) := hN ▸ List.mem_map_of_mem hs
   obtain ⟨i, _, hi⟩ := List.mem_map.1 this
   exact List.mem_of_getElem? hi
 have hap := List.pairwise_append.1 h.below.mdis
 refine ⟨⟨h.below.toBlw, fun s hs => ?_, ?_⟩, h.base, h.at_, h.free, h.apart⟩
 · rcases List.mem_append.1 hs with hs | hs
   · exact h.below.maps s (List.mem_append_left _ (hmem s hs))
   · exact h.below.maps s (List.mem_append_right _ hs)
 · refine List.pairwise_append.2 ⟨?_, hap.2.1, fun r hr s hs => hap.2.2 r (hmem r hr) s hs⟩
   rw [List.pairwise_iff_getElem]
   intro x y hx hy hxy
   have hl : is.length = N'.length := by have := congrArg List.length hN; simpa using this
   have gx : N[is[x]]? = some N'[x] := by
     have := congrArg (·[x]?) hN
     simpa [hx, hl ▸ hx] using this
   have gy : N[is[y]]? = some N'[y] := by
     have := congrArg (·[y]?) hN
     simpa [hy, hl ▸ hy] using this
   have hne : is[x] ≠ is[y] := List.pairwise_iff_getElem.1 hn x y (by omega) (by omega) hxy
   have ex := List.getElem?_eq_some_iff.1 gx
   have ey := List.getElem?_eq_some_iff.1 gy
   rcases Nat.lt_or_ge is[x] is[y] with hlt | hge
   · have := List.pairwise_iff_getElem.1 hap.1 _ _ ex.1 ey.1 hlt
     rw [ex.2, ey.2] at this; exact this
   · have := List.pairwise_iff_getElem.1 hap.1 _ _ ey.1 ex.1 (by omega)
     rw [ex.2, ey.2] at this; exact Ne.symm this
end st
section step
variable {P : Program} {n : Nat} {K : Pend → Env → World → Prop} {l : List It} {O O' : Pend} {e : Env} {w : World} {i ty : Nat} {d : Tmp} {pos : String} {aft : Array Edge} {gd g : Option (Nat × Bool)}
variable {B : Nat} {w0 : Base} {L LL : List Rg} {N : List MR} {κ : Type} [DecidableEq κ] {kv : κ → Value} {D : EL}
theorem Plan.makeMap (kv : κ → Value) (D : EL) (LL : List Rg) (hst : St B (w0.on N) L w) {t : TypeId} (hg : wantedE n e g = true) (hO : EffO aft O L O')
   (h : ∀ m w', St B (w0.on (mapR kv D LL m [] :: N)) L w' → Plan P n K l O' (upd e d (.map (some m))) w') :
   Plan P n K (⟨i, false, ⟨some d, .makeMap t none, ty, pos, aft, gd⟩, g⟩ :: l) O e w := by
 have hst' : St B (w0.on (mapR kv D LL w.heap.size [] :: N)) L (w.alloc (.map #[] 0)) := hst.newMR (r := mapR kv D LL w.heap.size []) (o := .map #[] 0) rfl rfl ⟨[], 0, rfl, ⟨rfl, fun z h => (by cases h), .nil, .nil, fun z h => (by cases h)⟩⟩
 exact Plan.effS hg (run_v (run_makeMap t w)) hst' hO fun w' hw' => h _ w' hw'
theorem run_lookupM {kt et mt : TypeId} (hK : KeyK P kt kv) (hu : P.underlying mt = some (.map kt et)) {m c : Nat} {Z : List (ZE κ D)} {X : List (κ × D.α)} (hk : w.heap[m]? = some (.map (Z.map (entZ kv D)).toArray c)) (hZ : MOK D LL X Z c) (k : κ) (zb : D.β) (zx : D.α) (hz : (P.info? et).bind (·.zero) = some (D.val zb zx)) (hs : D.side LL zb zx) :
   ∃ b, D.side LL b ((mget k X).getD zx) ∧ (Instr.lookup mt (.map (some m)) (kv k) true).run P w = .ok (.tuple #[D.val b ((mget k X).getD zx), .bool (mget k X).isSome]) w := by
 have hf := hK.find k (Z.map (entZ kv D)) (Z.map (·.2.1)) w (keys_ent Z)
 cases hr : fI k ((Z.map (·.2.1)).zip ((Z.map (entZ kv D)).map (·.val))) 0 with
 | none =>
   obtain ⟨h1, _, _, _⟩ := fI_none (kv := kv) zx Z 0 hr
   rw [hZ.hX] at h1
   rw [hr] at hf
   refine ⟨zb, by rw [h1]; exact hs, ?_⟩
   simp only [Instr.lookup, Sem.run_bind, run_underlying hu, Result.andThen, MapKept.run_getObj_map hk, hK.check, hf, run_zeroValue hz, Sem.run_pure, h1, if_true]
   rfl
 | some p =>
   obtain ⟨j, v⟩ := p
   obtain ⟨_, ⟨z, h2, h3, h4, h5⟩, _⟩ := fI_some (kv := kv) zb zx Z 0 j v hr
   rw [hZ.hX] at h5
   rw [hr] at hf
   refine ⟨z.2.2.1, by rw [h5]; exact hZ.side z (List.mem_of_getElem? h2), ?_⟩
   simp only [Instr.lookup, Sem.run_bind, run_underlying hu, Result.andThen, MapKept.run_getObj_map hk, hK.check, hf, Sem.run_pure, h5, if_true, h4]
   rfl
theorem Plan.lookupM (hst : St B (w0.on N) L w) {kt et mt : TypeId} {x y : Operand} {m : Nat} {X : List (κ × D.α)} {k : κ} (j : Nat) (hK : KeyK P kt kv) (hu : P.underlying mt = some (.map kt et)) (hN : N[j]? = some (mapR kv D LL m X)) (zb : D.β) (zx : D.α) (hz : (P.info? et).bind (·.zero) = some (D.val zb zx)) (hs : D.side LL zb zx)
   (hg : wantedE n e g = true) (hx : ev n e x = .map (some m)) (hy : ev n e y = kv k) (hO : EffO aft O L O')
   (h : ∀ b w', D.side LL b ((mget k X).getD zx) → St B (w0.on N) L w' → Plan P n K l O' (upd e d (.tuple #[D.val b ((mget k X).getD zx), .bool (mget k X).isSome])) w') :
   Plan P n K (⟨i, false, ⟨some d, .lookup mt x y true, ty, pos, aft, gd⟩, g⟩ :: l) O e w := by
 obtain ⟨o, _, h2, Z, c, rfl, hZ⟩ := hst.mr hN
 obtain ⟨b, hb, hr⟩ := run_lookupM hK hu h2 hZ k zb zx hz hs
 exact Plan.effS hg (run_v (by rw [hx, hy]; exact hr)) hst hO fun w' hw' => h b w' hb hw'
theorem MOK.push {X : List (κ × D.α)} {Z : List (ZE κ D)} {c : Nat} (h : MOK D LL X Z c) {k : κ} {b : D.β} {x : D.α} (hk : k ∉ Z.map (·.2.1)) (hs : D.side LL b x) : MOK D LL (X ++ [(k, x)]) (Z ++ [(c, k, b, x)]) (c + 1) where
 hX := by rw [List.map_append, h.hX]; rfl
 side := fun z hz => by
   rcases List.mem_append.1 hz with hz | hz
   · exact h.side z hz
   · obtain rfl := List.mem_singleton.1 hz; exact hs
 nd := by
   rw [List.map_append, List.nodup_append]
   exact ⟨h.nd, by simp, fun a ha b hb => by
     simp only [List.map_cons, List.map_nil, List.mem_singleton] at hb
     subst hb
     exact fun he => hk (he ▸ ha)⟩
 bn := by
   rw [List.map_append, List.nodup_append]
   exact ⟨h.bn, by simp, fun a ha b hb => by
     simp only [List.map_cons, List.map_nil, List.mem_singleton] at hb
     subst hb
     obtain ⟨z, hz, rfl⟩ := List.mem_map.1 ha
     have := h.lt z hz
     omega⟩
 lt := fun z hz => by
   rcases List.mem_append.1 hz with hz | hz
   · exact Nat.lt_succ_of_lt (h.lt z hz)
   · obtain rfl := List.mem_singleton.1 hz; exact Nat.lt_succ_self _
theorem mem_modify' {α : Type} {f : α → α} {a : α} : ∀ {l : List α} {i : Nat}, a ∈ l.modify i f → a ∈ l ∨ ∃ b ∈ l, a = f b
 | [], i, h => by simp at h
 | x :: l, 0, h => by
   simp only [List.modify_zero_cons, List.mem_cons] at h
   rcases h with rfl | h
   · exact .inr ⟨x, List.mem_cons_self, rfl⟩
   · exact .inl (List.mem_cons_of_mem _ h)
 | x :: l, i + 1, h => by
   simp only [List.modify_succ_cons, List.mem_cons] at h
   rcases h with rfl | h
   · exact .inl List.mem_cons_self
   · rcases mem_modify' h with h | ⟨b, hb, rfl⟩
     · exact .inl (List.mem_cons_of_mem _ h)
     · exact .inr ⟨b, List.mem_cons_of_mem _ hb, rfl⟩
theorem Plan.updM (hst : St B (w0.on N) L w) {kt et mt : TypeId} {x y v : Operand} {m : Nat} {X : List (κ × D.α)} {k : κ} (j : Nat) (hK : KeyK P kt kv) (hu : P.underlying mt = some (.map kt et)) (hN : N[j]? = some (mapR kv D LL m X)) (b : D.β) (a : D.α) (hs : D.side LL b a)
   (hg : wantedE n e g = true) (hx : ev n e x = .map (some m)) (hy : ev n e y = kv k) (hv : ev n e v = D.val b a) (hO : EffO aft O L O')
   (h : ∀ w', St B (w0.on (N.set j (mapR kv D LL m (mset k a X)))) L w' → Plan P n K l O' e w') :
   Plan P n K (⟨i, false, ⟨none, .mapUpdate mt x y v, ty, pos, aft, gd⟩, g⟩ :: l) O e w := by
 obtain ⟨o, ho, h2, Z, c, rfl, hZ⟩ := hst.mr hN
 have hf := hK.find k (Z.map (entZ kv D)) (Z.map (·.2.1)) w (keys_ent Z)
 have h2' : w.heap[m]? = some (.map (Z.map (entZ kv D)).toArray c) := h2
 cases hr : fI k ((Z.map (·.2.1)).zip ((Z.map (entZ kv D)).map (·.val))) 0 with
 | none =>
   obtain ⟨_, h3, _, h4⟩ := fI_none (kv := kv) a Z 0 hr
   rw [hZ.hX] at h3
   rw [hr] at hf
   have hst' := hst.setMR hN (r' := mapR kv D LL m (mset k a X)) rfl h2 ho (o' := .map ((Z ++ [(c, k, b, a)]).map (entZ kv D)).toArray (c + 1)) rfl ⟨_, _, rfl, by rw [h3]; exact hZ.push h4 hs⟩
   refine Plan.effU hg (run_u ?_) hst' hO fun w' hw' => h w' hw'
   rw [hx, hy, hv]
   simp only [Instr.mapUpdate, Sem.run_bind, run_underlying hu, Result.andThen, MapKept.run_getObj_map h2', hK.check, hf, MapKept.run_setObj_map _ h2']
   congr 4
   apply Array.ext'
   simp [entZ]
 | some p =>
   obtain ⟨q, vv⟩ := p
   obtain ⟨_, ⟨z, h4, h5, h6, _⟩, h7, h8, _⟩ := fI_some (kv := kv) b a Z 0 q vv hr
   rw [Nat.sub_zero] at h4 h7 h8
   rw [hZ.hX] at h7
   rw [hr] at hf
   have hst' := hst.setMR hN (r' := mapR kv D LL m (mset k a X)) rfl h2 ho (o' := .map ((Z.modify q fun z => (z.1, k, b, a)).map (entZ kv D)).toArray c) rfl ⟨_, _, rfl, ⟨h7, fun y hy => by
     rcases mem_modify' hy with hy | ⟨y', hy, rfl⟩
     · exact hZ.side y hy
     · exact hs, by rw [h8]; exact hZ.nd, by
       have : (Z.modify q fun z => (z.1, k, b, a)).map (·.1) = Z.map (·.1) := by
         apply List.ext_getElem?
         intro t
         simp only [List.getElem?_map, List.getElem?_modify]
         cases Z[t]? with
         | none => rfl
         | some y => by_cases hq : q = t <;> simp [hq]
       rw [this]; exact hZ.bn, fun y hy => by
     rcases mem_modify' hy with hy | ⟨y', hy', rfl⟩
     · exact hZ.lt y hy
     · exact hZ.lt y' hy'⟩⟩
   refine Plan.effU hg (run_u ?_) hst' hO fun w' hw' => h w' hw'
   rw [hx, hy, hv]
   have e1 : (Z.map (entZ kv D)).toArray[q]? = some (entZ kv D z) := by
     rw [List.getElem?_toArray, List.getElem?_map, h4]; rfl
   have e2 : (entZ kv D z).key = kv k := by show kv z.2.1 = _; rw [h5]
   have e3 : (Instr.keyThatStays (kv k) (kv k)).run P w = .ok (kv k) w := by
     simp only [Instr.keyThatStays, hK.same k, if_true]; rfl
   simp only [Instr.mapUpdate, Sem.run_bind, run_underlying hu, Result.andThen, MapKept.run_getObj_map h2', hK.check, hf, e1, Option.map_some, Option.getD_some, e2, e3, MapKept.run_setObj_map _ h2', modify_ent]
   rfl
theorem nodup_erase {α β : Type} {f : α → β} {l : List α} (i : Nat) (h : (l.map f).Nodup) : ((l.eraseIdx i).map f).Nodup := h.sublist ((List.eraseIdx_sublist l i).map f)
theorem Plan.delM (hst : St B (w0.on N) L w) {kt et mt : TypeId} {x y : Operand} {m : Nat} {X : List (κ × D.α)} {k : κ} (j : Nat) (hK : KeyK P kt kv) (hu : P.underlying mt = some (.map kt et)) (hN : N[j]? = some (mapR kv D LL m X))
   (hg : wantedE n e g = true) (hx : ev n e x = .map (some m)) (hy : ev n e y = kv k) (hO : EffO aft O L O') {dst : Option Tmp}
   (h : ∀ w', St B (w0.on (N.set j (mapR kv D LL m (mdel k X)))) L w' → Plan P n K l O' (updO e dst (.tuple #[])) w') {kt' : TypeId} :
   Plan P n K (⟨i, false, ⟨dst, .call ⟨.builtin .delete, #[x, y], #[mt, kt']⟩, ty, pos, aft, gd⟩, g⟩ :: l) O e w := by
 obtain ⟨o, ho, h2, Z, c, rfl, hZ⟩ := hst.mr hN
 have hf := hK.find k (Z.map (entZ kv D)) (Z.map (·.2.1)) w (keys_ent Z)
 have h2' : w.heap[m]? = some (.map (Z.map (entZ kv D)).toArray c) := h2
 cases hr : fI k ((Z.map (·.2.1)).zip ((Z.map (entZ kv D)).map (·.val))) 0 with
 | none =>
   have h3 : mdel k X = X := by
     cases Z with
     | nil => rw [← hZ.hX]; rfl
     | cons z0 Z0 => have := (fI_none (kv := kv) z0.2.2.2 (z0 :: Z0) 0 hr).2.2.1; rw [hZ.hX] at this; exact this
   rw [hr] at hf
   have hst' := hst.setMR hN (r' := mapR kv D LL m (mdel k X)) rfl h2 ho (o' := .map (Z.map (entZ kv D)).toArray c) rfl ⟨_, _, rfl, by rw [h3]; exact hZ⟩
   refine Plan.effS hg (v := .tuple #[]) (run_blt2 fun cs => ?_) hst' hO fun w' hw' => h w' hw'
   rw [hx, hy]
   simp only [builtin, Sem.run_bind, Builtin.delete_, run_underlying hu, Result.andThen, MapKept.run_getObj_map h2', hK.check, hf, MapKept.run_setObj_map _ h2', List.getElem?_toArray, List.getElem?_cons_zero, List.getElem?_cons_succ]
   rfl
 | some p =>
   obtain ⟨q, vv⟩ := p
   have hZ0 : ∃ z0 : ZE κ D, True := by
     cases Z with
     | nil => cases hr
     | cons z0 _ => exact ⟨z0, trivial⟩
   obtain ⟨z0, _⟩ := hZ0
   obtain ⟨_, _, _, _, h9⟩ := fI_some (kv := kv) z0.2.2.1 z0.2.2.2 Z 0 q vv hr
   rw [Nat.sub_zero, hZ.hX] at h9
   rw [hr] at hf
   have hst' := hst.setMR hN (r' := mapR kv D LL m (mdel k X)) rfl h2 ho (o' := .map ((Z.eraseIdx q).map (entZ kv D)).toArray c) rfl ⟨_, _, rfl, ⟨h9, fun y hy => hZ.side y ((List.eraseIdx_sublist Z q).subset hy), nodup_erase q hZ.nd, nodup_erase q hZ.bn, fun y hy => hZ.lt y ((List.eraseIdx_sublist Z q).subset hy)⟩⟩
   refine Plan.effS hg (v := .tuple #[]) (run_blt2 fun cs => ?_) hst' hO fun w' hw' => h w' hw'
   rw [hx, hy]
   simp only [builtin, Sem.run_bind, Builtin.delete_, run_underlying hu, Result.andThen, MapKept.run_getObj_map h2', hK.check, hf, MapKept.run_setObj_map _ h2', erase_ent, List.getElem?_toArray, List.getElem?_cons_zero, List.getElem?_cons_succ]
   rfl
theorem Plan.lenM (hst : St B (w0.on N) L w) {kt et mt : TypeId} {x : Operand} {m : Nat} {X : List (κ × D.α)} (j : Nat) (hu : P.underlying mt = some (.map kt et)) (hN : N[j]? = some (mapR kv D LL m X)) (hg : wantedE n e g = true) (hx : ev n e x = .map (some m)) (hO : EffO aft O L O')
   (h : ∀ w', St B (w0.on N) L w' → Plan P n K l O' (upd e d (VN X.length)) w') :
   Plan P n K (⟨i, false, ⟨some d, .call ⟨.builtin .len, #[x], #[mt]⟩, ty, pos, aft, gd⟩, g⟩ :: l) O e w := by
 obtain ⟨o, ho, h2, Z, c, rfl, hZ⟩ := hst.mr hN
 have h2' : w.heap[m]? = some (.map (Z.map (entZ kv D)).toArray c) := h2
 refine Plan.effS hg (v := VN X.length) (run_blt fun cs => ?_) hst hO fun w' hw' => h w' hw'
 rw [hx]
 have hl : (Z.map (entZ kv D)).toArray.size = X.length := by rw [← hZ.hX]; simp
 simp only [builtin, Sem.run_bind, Builtin.len_, run_underlying hu, Result.andThen, MapKept.run_getObj_map h2', List.getElem?_toArray, List.getElem?_cons_zero, hl]
 rfl
end step
end Go.LW
namespace Go.LW
set_option linter.unusedSimpArgs false
set_option linter.unusedVariables false
set_option linter.unusedSectionVars false
set_option linter.unusedSectionVars false
open Go Go.RowKit
def RangeR {E S : Type} (step : E → S → S → Prop) (Q : S → Prop) : Nat → List E → S → Prop
 | 0, _, s => Q s
 | n + 1, R, s => ∀ i p, R[i]? = some p → ∃ s', step p s s' ∧ RangeR step Q n (R.eraseIdx i) s'
theorem RangeR.nil {E S : Type} {step : E → S → S → Prop} {Q : S → Prop} {R : List E} {s : S} (h : RangeR step Q R.length R s) (hR : R = []) : Q s := by subst hR; exact h
theorem RangeR.cons {E S : Type} {step : E → S → S → Prop} {Q : S → Prop} {R : List E} {s : S} (h : RangeR step Q R.length R s) {i : Nat} {p : E} (hp : R[i]? = some p) : ∃ s', step p s s' ∧ RangeR step Q (R.eraseIdx i).length (R.eraseIdx i) s' := by
 have hi := (List.getElem?_eq_some_iff.1 hp).1
 have e : (R.eraseIdx i).length = R.length - 1 := List.length_eraseIdx_of_lt hi
 obtain ⟨m, hm⟩ : ∃ m, R.length = m + 1 := ⟨R.length - 1, by omega⟩
 rw [hm] at h
 rw [e, hm]
 exact h i p hp
theorem RangeR.by {E S : Type} {step : E → S → S → Prop} {Q : S → Prop} (inv : List E → S → Prop) (hs : ∀ R s i p, inv R s → R[i]? = some p → ∃ s', step p s s' ∧ inv (R.eraseIdx i) s') (hq : ∀ s, inv [] s → Q s) : ∀ (n : Nat) (R : List E) (s : S), R.length = n → inv R s → RangeR step Q n R s
 | 0, R, s, h, hi => hq s (List.length_eq_zero_iff.1 h ▸ hi)
 | n + 1, R, s, h, hi => fun i p hp => by
   obtain ⟨s', h1, h2⟩ := hs R s i p hi hp
   have hl := (List.getElem?_eq_some_iff.1 hp).1
   exact ⟨s', h1, RangeR.by inv hs hq n _ s' (by rw [List.length_eraseIdx_of_lt hl]; omega) h2⟩
section held
variable {κ : Type} [DecidableEq κ] (kv : κ → Value) (D : EL)
def mapX (L : List Rg) (m : Nat) (X : List (κ × D.α)) (Z : List (ZE κ D)) (c : Nat) : MR := ⟨m, fun o => o = .map (Z.map (entZ kv D)).toArray c ∧ MOK D L X Z c⟩
def itR (r m : Nat) (Z : List (ZE κ D)) (c : Nat) (Y : List (ZE κ D)) : MR := ⟨r, fun o => ∃ seen : Array Nat, o = .mapIter (some m) c seen c ∧ leftOf (Z.map (entZ kv D)).toArray seen = (Y.map (entZ kv D)).toArray ∧ ∀ y ∈ Y, y ∈ Z⟩
def itE (r m : Nat) (Z : List (ZE κ D)) (c : Nat) (Y : List (ZE κ D)) (z : ZE κ D) : MR := ⟨r, fun o => ∃ seen : Array Nat, o = .mapIter (some m) c (seen.push z.1) c ∧ leftOf (Z.map (entZ kv D)).toArray (seen.push z.1) = (Y.map (entZ kv D)).toArray ∧ (∀ y ∈ Y, y ∈ Z) ∧ z ∈ Z⟩
end held
section st
variable {B : Nat} {w0 : Base} {w : World} {L LL : List Rg} {N : List MR} {κ : Type} [DecidableEq κ] {kv : κ → Value} {D : EL}
theorem St.knownM (h : St B (w0.on N) L w) {i : Nat} {r r' : MR} (hN : N[i]? = some r) (hm : r'.m = r.m) (hok : ∀ o, keptO o = true → w.heap[r.m]? = some o → r.ok o → r'.ok o) : St B (w0.on (N.set i r')) L w := by
 obtain ⟨o, ho, h2, h3⟩ := h.mr hN
 have h4 := h.setMR hN hm h2 ho ho (hok o ho h2 h3)
 have e : ({ w with heap := w.heap.setIfInBounds r.m o } : World) = w := by
   obtain ⟨heap, a, b, c, d⟩ := w
   congr 1
   apply Array.ext_getElem?
   intro k
   rw [Array.getElem?_setIfInBounds]
   by_cases hk : r.m = k
   · subst hk
     rw [if_pos rfl, if_pos (Array.getElem?_eq_some_iff.1 h2).1]; exact h2.symm
   · rw [if_neg hk]
 rw [e] at h4
 exact h4
theorem St.unfixM (h : St B (w0.on N) L w) {i m c : Nat} {X : List (κ × D.α)} {Z : List (ZE κ D)} (hN : N[i]? = some (mapX kv D LL m X Z c)) : St B (w0.on (N.set i (mapR kv D LL m X))) L w :=
 h.knownM hN rfl fun _ _ _ ho => ⟨Z, c, ho.1, ho.2⟩
end st
section step
variable {P : Program} {n : Nat} {K : Pend → Env → World → Prop} {l : List It} {O O' : Pend} {e : Env} {w : World} {i ty : Nat} {d : Tmp} {pos : String} {aft : Array Edge} {gd g : Option (Nat × Bool)}
variable {B : Nat} {w0 : Base} {L LL : List Rg} {N : List MR} {κ : Type} [DecidableEq κ] {kv : κ → Value} {D : EL}
theorem leftOf_nil (Z : List (ZE κ D)) : leftOf (Z.map (entZ kv D)).toArray #[] = (Z.map (entZ kv D)).toArray := by
 unfold leftOf
 apply Array.filter_eq_self.2
 intro x _
 simp
theorem Plan.rangeM (hst : St B (w0.on N) L w) {kt et mt : TypeId} {x : Operand} {m : Nat} {X : List (κ × D.α)} (j : Nat) (hu : P.underlying mt = some (.map kt et)) (hN : N[j]? = some (mapR kv D LL m X)) (hg : wantedE n e g = true) (hx : ev n e x = .map (some m)) (hO : EffO aft O L O')
   (h : ∀ r Z c w', MOK D LL X Z c → St B (w0.on (itR kv D r m Z c Z :: N.set j (mapX kv D LL m X Z c))) L w' → Plan P n K l O' (upd e d (.pointer (some ⟨r, 0, none⟩))) w') :
   Plan P n K (⟨i, false, ⟨some d, .range mt x, ty, pos, aft, gd⟩, g⟩ :: l) O e w := by
 obtain ⟨o, ho, h2, Z, c, rfl, hZ⟩ := hst.mr hN
 have h2' : w.heap[m]? = some (.map (Z.map (entZ kv D)).toArray c) := h2
 have h3 := hst.knownM hN (r' := mapX kv D LL m X Z c) rfl fun o' _ h4 _ => by
   rw [h2] at h4
   obtain rfl := Option.some.inj h4
   exact ⟨rfl, hZ⟩
 have h4 := h3.newMR (o := .mapIter (some m) c #[] c) (r := itR kv D w.heap.size m Z c Z) rfl rfl ⟨#[], rfl, leftOf_nil Z, fun y hy => hy⟩
 refine Plan.effS hg (run_v ?_) h4 hO fun w' hw' => h _ Z c w' hZ hw'
 rw [hx]
 simp only [Instr.range, Sem.run_bind, run_underlying hu, Result.andThen, MapKept.run_getObj_map h2', Sem.run_pure, newObj]
 rfl
theorem left_push {Z Y : List (ZE κ D)} {seen : Array Nat} (hb : (Z.map (·.1)).Nodup) (hl : leftOf (Z.map (entZ kv D)).toArray seen = (Y.map (entZ kv D)).toArray) (hY : ∀ y ∈ Y, y ∈ Z) {q : Nat} {z : ZE κ D} (hq : Y[q]? = some z) :
   leftOf (Z.map (entZ kv D)).toArray (seen.push z.1) = ((Y.eraseIdx q).map (entZ kv D)).toArray := by
 have e1 : leftOf (Z.map (entZ kv D)).toArray (seen.push z.1) = (leftOf (Z.map (entZ kv D)).toArray seen).filter fun e => e.born != z.1 := by
   unfold leftOf
   rw [Array.filter_filter]
   congr 1
   funext x
   simp only [Array.contains_push, Bool.not_or]
   rw [Bool.and_comm]
   rfl
 rw [e1, hl]
 apply Array.ext'
 rw [Array.toList_filter]
 show List.filter _ (Y.map (entZ kv D)) = _
 rw [List.filter_map]
 have hYb : (Y.map (·.1)).Nodup := by
   have h1 : Y.map (·.1) = (leftOf (Z.map (entZ kv D)).toArray seen).toList.map (·.born) := by rw [hl]; simp [entZ, Function.comp_def]
   rw [h1]
   unfold leftOf
   rw [Array.toList_filter]
   have h2 : ((Z.map (entZ kv D)).map (·.born)) = Z.map (·.1) := by simp [entZ, Function.comp_def]
   exact List.Nodup.sublist (List.Sublist.map _ List.filter_sublist) (by rw [← h2] at hb; exact hb)
 congr 1
 clear e1 hl hY hb
 induction Y generalizing q with
 | nil => simp at hq
 | cons y Y ih =>
   rw [List.map_cons, List.nodup_cons] at hYb
   cases q with
   | zero =>
     rw [List.getElem?_cons_zero] at hq
     obtain rfl := Option.some.inj hq
     rw [List.eraseIdx_cons_zero, List.filter_cons, if_neg (by simp [entZ])]
     apply List.filter_eq_self.2
     intro x hx
     simp only [Function.comp_def, entZ, bne_iff_ne, ne_eq]
     exact fun he => hYb.1 (he ▸ List.mem_map_of_mem hx)
   | succ q =>
     rw [List.getElem?_cons_succ] at hq
     have hne : y.1 ≠ z.1 := fun he => hYb.1 (he ▸ List.mem_map_of_mem (List.mem_of_getElem? hq))
     rw [List.eraseIdx_cons_succ, List.filter_cons, if_pos (by simp [entZ, hne]), ih hq hYb.2]
theorem Plan.nextM (hst : St B (w0.on N) L w) {x : Operand} {r m c : Nat} {X : List (κ × D.α)} {Z Y : List (ZE κ D)} (ji j : Nat) (hI : N[ji]? = some (itR kv D r m Z c Y)) (hN : N[j]? = some (mapX kv D LL m X Z c)) (hg : wantedE n e g = true) (hx : ev n e x = .pointer (some ⟨r, 0, none⟩)) (hO : EffO aft O L O')
   (h0 : Y = [] → ∀ w', St B (w0.on N) L w' → Plan P n K l O' (upd e d (.tuple #[.bool false])) w')
   (h1 : ∀ q z, Y[q]? = some z → ∀ w', St B (w0.on (N.set ji (itE kv D r m Z c (Y.eraseIdx q) z))) L w' → Plan P n K l O' (upd e d (.tuple #[.bool true, kv z.2.1, D.val z.2.2.1 z.2.2.2])) w') :
   Plan P n K (⟨i, false, ⟨some d, .next x false, ty, pos, aft, gd⟩, g⟩ :: l) O e w := by
 obtain ⟨o, ho, h2, rfl, hZ⟩ := hst.mr hN
 obtain ⟨oi, hoi, h3, seen, rfl, h4, h5⟩ := hst.mr hI
 have hrun := run_next_at (P := P) w ty r m c c seen (Z.map (entZ kv D)).toArray c h3 h2 (fun x hx => by
   have hx' : x ∈ Z.map (entZ kv D) := hx
   obtain ⟨z, hz, rfl⟩ := List.mem_map.1 hx'
   exact hZ.lt z hz) (Nat.le_refl _)
 rcases hrun with ⟨hs, hr⟩ | ⟨e', he', w1, hw1, hr⟩
 · rw [h4] at hs
   have hY : Y = [] := by simpa using hs
   refine Plan.effS hg (run_v ?_) hst hO fun w' hw' => h0 hY w' hw'
   rw [hx]; exact hr
 · rw [h4] at he'
   have he2 : e' ∈ Y.map (entZ kv D) := he'
   obtain ⟨z, hz, rfl⟩ := List.mem_map.1 he2
   obtain ⟨q, hq⟩ := List.mem_iff_getElem?.1 hz
   have hst1 : St B (w0.on N) L w1 := by
     rcases hw1 with rfl | rfl
     · exact hst
     · exact hst.drew
   have h3' : w1.heap[r]? = some (.mapIter (some m) c seen c) := by
     rcases hw1 with rfl | rfl <;> exact h3
   have hst2 := hst1.setMR hI (r' := itE kv D r m Z c (Y.eraseIdx q) z) rfl h3' rfl (o' := .mapIter (some m) c (seen.push z.1) c) rfl ⟨seen, rfl, left_push hZ.bn h4 h5 hq, fun y hy => h5 y ((List.eraseIdx_sublist Y q).subset hy), h5 z hz⟩
   refine Plan.effS hg (run_v ?_) hst2 hO fun w' hw' => h1 q z hq w' hw'
   rw [hx]; exact hr
theorem Plan.entryM (hst : St B (w0.on N) L w) {x : Operand} {r m c : Nat} {X : List (κ × D.α)} {Z Y : List (ZE κ D)} {z : ZE κ D} (ji j : Nat) (hI : N[ji]? = some (itE kv D r m Z c Y z)) (hN : N[j]? = some (mapX kv D LL m X Z c)) (hg : wantedE n e g = true) (hx : ev n e x = .pointer (some ⟨r, 0, none⟩)) (hO : EffO aft O L O')
   (h : ∀ w', D.side LL z.2.2.1 z.2.2.2 → St B (w0.on (N.set ji (itR kv D r m Z c Y))) L w' → Plan P n K l O' (upd e d (.tuple #[kv z.2.1, D.val z.2.2.1 z.2.2.2])) w') :
   Plan P n K (⟨i, false, ⟨some d, .entry x, ty, pos, aft, gd⟩, g⟩ :: l) O e w := by
 obtain ⟨o, ho, h2, rfl, hZ⟩ := hst.mr hN
 obtain ⟨oi, hoi, h3, seen, rfl, h4, h5, h6⟩ := hst.mr hI
 have hr := run_entry_at (P := P) w r m c seen (Z.map (entZ kv D)).toArray c (entZ kv D z) h3 h2 (List.mem_map_of_mem (f := entZ kv D) h6) (by
   have : ((Z.map (entZ kv D)).toArray.toList.map (·.born)) = Z.map (·.1) := by simp [entZ, Function.comp_def]
   rw [this]; exact hZ.bn)
 have hst1 := hst.knownM hI (r' := itR kv D r m Z c Y) rfl fun o' _ h7 _ => by
   rw [show w.heap[(itE kv D r m Z c Y z).m]? = _ from h3] at h7
   obtain rfl := Option.some.inj h7
   exact ⟨_, rfl, h4, h5⟩
 refine Plan.effS hg (run_v ?_) hst1 hO fun w' hw' => h w' (hZ.side z h6) hw'
 rw [hx]; exact hr
end step
section fields
variable {P : Program} {n : Nat} {K : Pend → Env → World → Prop} {l : List It} {O O' : Pend} {e : Env} {w : World} {i ty : Nat} {d : Tmp} {pos : String} {aft : Array Edge} {gd g : Option (Nat × Bool)}
variable {B : Nat} {w0 : Base} {L : List Rg} {D : EL}
end fields
section loops
variable {P : Program} {n : Nat} {R : Exit → Env → World → Prop} {e : Env} {w : World} {κ : Type} {D : EL}
def rangeQ {S : Type} (step : κ × D.α → S → S → Prop) (Q : S → Prop) (inv : List (ZE κ D) → S → Env → World → Prop) (Y : List (ZE κ D)) (R : Exit → Env → World → Prop) : Exit → Env → World → Prop
 | .normal, e, w => ∃ Y' s', Y'.length < Y.length ∧ RangeR step Q (Y'.map (prj D)).length (Y'.map (prj D)) s' ∧ inv Y' s' e w
 | x, e, w => R x e w
theorem W.range {c : Code} {S : Type} {step : κ × D.α → S → S → Prop} {Q : S → Prop} {Z : List (ZE κ D)} {s0 : S} (hI : RangeR step Q (Z.map (prj D)).length (Z.map (prj D)) s0) (inv : List (ZE κ D) → S → Env → World → Prop) (h0 : inv Z s0 e w)
   (round : ∀ Y s, RangeR step Q (Y.map (prj D)).length (Y.map (prj D)) s → ∀ e w, inv Y s e w → W P n c (rangeQ step Q inv Y R) e w) : W P n (.loop c) R e w := by
 refine W.loop (fun m e w => ∃ Y s, Y.length = m ∧ RangeR step Q (Y.map (prj D)).length (Y.map (prj D)) s ∧ inv Y s e w) _ ⟨Z, s0, rfl, hI, h0⟩ ?_
 rintro m e w ⟨Y, s, rfl, hR, hi⟩
 refine (round Y s hR e w hi).mono fun ex e w hr => ?_
 cases ex with
 | normal => obtain ⟨Y', s', h1, h2, h3⟩ := hr; exact ⟨_, h1, Y', s', rfl, h2, h3⟩
 | _ => exact hr
theorem rangeQ_norm {S : Type} {step : κ × D.α → S → S → Prop} {Q : S → Prop} {inv : List (ZE κ D) → S → Env → World → Prop} {Y : List (ZE κ D)} {q : Nat} {z : ZE κ D} {s' : S} (hq : Y[q]? = some z) (hR : RangeR step Q ((Y.map (prj D)).eraseIdx q).length ((Y.map (prj D)).eraseIdx q) s') (hi : inv (Y.eraseIdx q) s' e w) : rangeQ step Q inv Y R .normal e w := by
 have hl := (List.getElem?_eq_some_iff.1 hq).1
 refine ⟨Y.eraseIdx q, s', ?_, ?_, hi⟩
 · rw [List.length_eraseIdx_of_lt hl]; omega
 · rw [erase_map] at hR; exact hR
theorem rangeQ_exit {S : Type} {step : κ × D.α → S → S → Prop} {Q : S → Prop} {inv : List (ZE κ D) → S → Env → World → Prop} {Y : List (ZE κ D)} {id : Nat} (h : R (.exit id) e w) : rangeQ step Q inv Y R (.exit id) e w := h
end loops
theorem LfL.intH {P : Program} {w : World} {M : Nat} {u : TypeId} {k : IntKind} (hku : P.underlying u = some (.int k)) {ts : List TypeId} {cs : List Value} (h : LfL P w M (u :: ts) cs) : ∃ (x : Int) (cs' : List Value), cs = .int k x :: cs' ∧ k.has x ∧ LfL P w M ts cs' := by
 cases h with
 | cons h1 t =>
   cases h1 with
   | int hu hw =>
     rw [hku] at hu
     obtain rfl : k = _ := TypeDesc.int.inj (Option.some.inj hu)
     exact ⟨_, _, rfl, by unfold IntKind.has; simpa [Lit.wf] using hw, t⟩
   | bool hu => rw [hku] at hu; cases hu
   | bytes hu _ _ _ => rw [hku] at hu; cases hu
section clone
variable {P : Program} {ρ : Shelf.Ren} {B : Nat} {w0 : Base} {w : World} {L LL : List Rg} {N : List MR} {κ : Type} [DecidableEq κ] {kv : κ → Value} {D : EL}
end clone
end Go.LW
namespace Go.LW
set_option linter.unusedSimpArgs false
set_option linter.unusedVariables false
set_option linter.unusedSectionVars false
set_option linter.unusedSectionVars false
open Go Go.RowKit
theorem Bx.isN {L : List Rg} {i : Nat} {a : Option Addr} {len cc : Nat} {X : List Byte} (h : Bx L i a len cc X) (hn : a.isNone = true) : X = [] := by
 obtain ⟨hl, _, h⟩ := h
 by_cases h0 : 0 < len
 · obtain ⟨_, _, _, _, _, _, _, _, h2, _⟩ := h h0
   obtain ⟨b, _, rfl⟩ := h2 h0
   cases hn
 · exact List.length_eq_zero_iff.1 (by omega)
theorem LV.isN {D : EL} {L : List Rg} {i : Nat} {a : Option Addr} {len cc : Nat} {X : List D.α} (h : LV D L i a len cc X) (hn : a.isNone = true) : X = [] := by
 obtain ⟨hl, _, h⟩ := h
 by_cases h0 : 0 < len
 · obtain ⟨_, _, _, _, _, _, _, _, h2, _⟩ := h h0
   obtain ⟨b, _, rfl⟩ := h2 h0
   cases hn
 · exact List.length_eq_zero_iff.1 (by omega)
section step
variable {P : Program} {n : Nat} {K : Pend → Env → World → Prop} {l : List It} {O O' : Pend} {e : Env} {w : World} {i ty : Nat} {d : Tmp} {pos : String} {aft : Array Edge} {gd g : Option (Nat × Bool)}
theorem Plan.eqSlN {t yt el : TypeId} {x y : Operand} {a : Option Addr} {len cc : Nat} (hu : P.underlying t = some (.slice el)) (hg : wantedE n e g = true) (hx : ev n e x = .slice a len cc) (hy : ev n e y = .slice none 0 0)
   (h : Plan P n K l O (upd e d (.bool a.isNone)) w) : Plan P n K (⟨i, true, ⟨some d, .binOp .eql t x y yt, ty, pos, aft, gd⟩, g⟩ :: l) O e w :=
 Plan.val hg (fun w => run_v (by
   rw [hx, hy, Sem.run_bind]
   have h1 : (eqGuard .eql t x y (.slice a len cc) (.slice none 0 0)).run P w = .ok () w := rfl
   rw [h1]
   exact Go.Lib.run_eql_slice_nil w t el a len cc 0 0 hu)) h
end step
section calls
variable {P : Program} {n : Nat} {K : Pend → Env → World → Prop} {l : List It} {O : Pend} {e : Env} {w : World} {i ty : Nat} {pos : String} {aft : Array Edge} {gd g : Option (Nat × Bool)}
end calls
section pools
variable {B : Nat} {w0 : Base} {w : World} {L LP LP' : List Rg} {N : List MR} {κ : Type} [DecidableEq κ] {kv : κ → Value} {D : EL}
end pools
section lists
variable {P : Program} {n : Nat} {K : Pend → Env → World → Prop} {l : List It} {O O' : Pend} {e : Env} {w : World} {i ty : Nat} {d : Tmp} {pos : String} {aft : Array Edge} {gd g : Option (Nat × Bool)}
variable {B : Nat} {w0 : Base} {L : List Rg} {D : EL}
end lists
end Go.LW
namespace Go.LW
set_option linter.unusedSimpArgs false
set_option linter.unusedVariables false
set_option linter.unusedSectionVars false
open Go Go.RowKit
inductive Leaf2 (P : Program) (w : World) (M : Nat) : TypeId → Value → Prop
 | one {u : TypeId} {v : Value} (h : Leaf P w M u v) : Leaf2 P w M u v
 | rows {u e : TypeId} {ts : List TypeId} {a : Option Addr} {len cap : Nat} {p : Option Nat} {off : Nat} {G : Nat → Value} (hu : P.underlying u = some (.slice e)) (he : ∀ k, P.underlying e ≠ some (.int k)) (hl : leafs P 12 e = some ts) (h : LRows P w M ts a len cap p off G) (hf : cap * P.bytesOf e ≤ M) : Leaf2 P w M u (.slice a len cap)
inductive LfL2 (P : Program) (w : World) (M : Nat) : List TypeId → List Value → Prop
 | nil : LfL2 P w M [] []
 | cons {u : TypeId} {v : Value} {ts : List TypeId} {cs : List Value} (h : Leaf2 P w M u v) (t : LfL2 P w M ts cs) : LfL2 P w M (u :: ts) (v :: cs)
theorem LfL2.append {P : Program} {w : World} {M : Nat} {ts ts' : List TypeId} {cs cs' : List Value} (h : LfL2 P w M ts cs) (h' : LfL2 P w M ts' cs') : LfL2 P w M (ts ++ ts') (cs ++ cs') := by
 induction h with
 | nil => exact h'
 | cons h _ ih => exact .cons h ih
theorem LfL2.length {P : Program} {w : World} {M : Nat} {ts : List TypeId} {cs : List Value} (h : LfL2 P w M ts cs) : cs.length = ts.length := by
 induction h with
 | nil => rfl
 | cons _ _ ih => rw [List.length_cons, List.length_cons, ih]
theorem LfL.two {P : Program} {w : World} {M : Nat} {ts : List TypeId} {cs : List Value} (h : LfL P w M ts cs) : LfL2 P w M ts cs := by
 induction h with
 | nil => exact .nil
 | cons h _ ih => exact .cons (.one h) ih
section
variable {H : Type} {enc : TypeId × Value → H} {P : Program} {w : World} {M : Nat} {held : Bool} {K : TypeId → DataW H → Prop}
end
structure LRows2 (P : Program) (w : World) (M : Nat) (e : TypeId) (ts : List TypeId) (a : Option Addr) (len cap : Nat) (p : Option Nat) (off : Nat) (G : Nat → Value) : Prop where
 at_ : (Rg.mk p off (cap * ts.length) G false).at w
 sl : SlV a p off len
 le : len ≤ cap
 big : cap ≤ maxLen
 fat : cap * P.bytesOf e ≤ M
 el : ∀ i, i < cap → LfL2 P w M ts ((List.range ts.length).map fun j => G (i * ts.length + j))
def Opens2 (P : Program) (w : World) (M : Nat) (D : EL) (ts : List TypeId) (Q : D.α → Prop) : Prop := ∀ cells, LfL2 P w M ts cells → ∃ (R : List Rg) (b : D.β) (x : D.α), (∀ r ∈ R, r.at w ∧ r.rw = false) ∧ D.side R b x ∧ cells = catL (D.E b x) ∧ Q x
theorem LRows2.lv {P : Program} {M : Nat} {B : Nat} {w0 : Base} {w : World} {L : List Rg} {D : EL} {e : TypeId} {ts : List TypeId} {a : Option Addr} {len cap : Nat} {p : Option Nat} {off : Nat} {G : Nat → Value} (h : LRows2 P w M e ts a len cap p off G) (hst : St B w0 L w) (hr : LW.roL L) {Q : D.α → Prop} (ho : Opens2 P w M D ts Q) (hl : D.lifts) (hsz : D.sz = ts.length) :
   ∃ (C : List Rg) (X : List D.α), St B w0 (C ++ L) w ∧ LW.roL (C ++ L) ∧ LV D (C ++ L) 0 a len cap X ∧ ∀ (j : Nat) x, X[j]? = some x → Q x := by
 have each : ∀ i, i < cap → ∃ (R : List Rg) (b : D.β) (x : D.α), (∀ r ∈ R, r.at w ∧ r.rw = false) ∧ D.side R b x ∧ ((List.range ts.length).map fun j => G (i * ts.length + j)) = catL (D.E b x) ∧ Q x := fun i hi => ho _ (h.el i hi)
 have hle := h.le
 -- the elements, one by one
 have all : ∀ m, m ≤ len → ∃ (R : List Rg) (X : List D.α), X.length = m ∧ (∀ r ∈ R, r.at w ∧ r.rw = false) ∧ ∀ j x, X[j]? = some x → ∃ b, D.side R b x ∧ ((List.range ts.length).map fun q => G (j * ts.length + q)) = catL (D.E b x) ∧ Q x := by
   intro m
   induction m with
   | zero =>
     intro _
     refine ⟨[], [], rfl, fun r hr => ?_, fun j x hx => ?_⟩
     · cases hr
     · rw [List.getElem?_nil] at hx; cases hx
   | succ m ih =>
     intro hm
     obtain ⟨R, X, h1, h2, h3⟩ := ih (by omega)
     obtain ⟨R1, b, x, h4, h5, h6⟩ := each m (by omega)
     refine ⟨R ++ R1, X ++ [x], by rw [List.length_append, h1]; rfl, fun r hr => (List.mem_append.1 hr).elim (h2 r) (h4 r), fun j y hy => ?_⟩
     by_cases hj : j < m
     · rw [List.getElem?_append_left (by omega)] at hy
       obtain ⟨b', h7, h8⟩ := h3 j y hy
       exact ⟨b', hl _ _ _ _ (fun r hr => List.mem_append_left _ hr) h7, h8⟩
     · have hjm : j = m := by
         have := (List.getElem?_eq_some_iff.1 hy).1
         rw [List.length_append, h1, List.length_singleton] at this; omega
       subst hjm
       rw [List.getElem?_append_right (by omega), h1, Nat.sub_self] at hy
       obtain rfl : x = y := Option.some.inj hy
       exact ⟨b, hl _ _ _ _ (fun r hr => List.mem_append_right _ hr) h5, h6⟩
 obtain ⟨R, X, h1, h2, h3⟩ := all len (Nat.le_refl _)
 obtain ⟨s1, s2⟩ := hst.roL hr (⟨p, off, cap * ts.length, G, false⟩ :: R) (fun r hr => by
   rcases List.mem_cons.1 hr with rfl | hr
   · exact ⟨h.at_, rfl⟩
   · exact h2 r hr)
 refine ⟨_, X, s1, s2, ⟨h1, hle, fun _ => ⟨off, cap * ts.length, 0, off, p, G, false, rfl, h.sl, rfl, by rw [hsz, Nat.zero_add]; exact Nat.mul_le_mul_right _ hle, fun j x hx => ?_⟩⟩, fun j x hx => (h3 j x hx).choose_spec.2.2⟩
 obtain ⟨b, h7, h8, _⟩ := h3 j x hx
 refine ⟨b, hl _ _ _ _ (fun r hr => List.mem_append_left _ (List.mem_cons_of_mem _ hr)) h7, fun k v hv => ?_⟩
 rw [← h8] at hv
 have hk : k < ts.length := by
   have := (List.getElem?_eq_some_iff.1 hv).1
   simpa using this
 rw [List.getElem?_map, List.getElem?_range hk] at hv
 show G (0 + j * D.sz + k) = v
 rw [hsz, Nat.zero_add]
 exact Option.some.inj hv
theorem LfL2.cut {P : Program} {w : World} {M : Nat} {u : TypeId} (hn : ∀ e, P.underlying u ≠ some (.slice e)) : ∀ {n : Nat} {ts : List TypeId} {cs : List Value}, LfL2 P w M (List.replicate n u ++ ts) cs → ∃ c1 c2, cs = c1 ++ c2 ∧ LfL P w M (List.replicate n u) c1 ∧ LfL2 P w M ts c2
 | 0, ts, cs, h => ⟨[], cs, rfl, .nil, h⟩
 | n + 1, ts, cs, h => by
   rw [List.replicate_succ, List.cons_append] at h
   cases h with
   | cons h1 t =>
     obtain ⟨c1, c2, rfl, h2, h3⟩ := LfL2.cut hn t
     cases h1 with
     | one h1 => exact ⟨_ :: c1, c2, rfl, .cons h1 h2, h3⟩
     | rows hu => exact absurd hu (hn _)
theorem LfL2.intH {P : Program} {w : World} {M : Nat} {u : TypeId} {k : IntKind} (hku : P.underlying u = some (.int k)) {ts : List TypeId} {cs : List Value} (h : LfL2 P w M (u :: ts) cs) : ∃ (x : Int) (cs' : List Value), cs = .int k x :: cs' ∧ k.has x ∧ LfL2 P w M ts cs' := by
 obtain ⟨c1, c2, rfl, h2, h3⟩ := LfL2.cut (n := 1) (fun e he => by rw [hku] at he; cases he) h
 obtain ⟨x, c', rfl, h4, h5⟩ := LfL.intH hku h2
 cases h5
 exact ⟨x, c2, rfl, h4, h3⟩
theorem LfL2.int {P : Program} {w : World} {M : Nat} {u : TypeId} {k : IntKind} (hku : P.underlying u = some (.int k)) {ts : List TypeId} {cs : List Value} (h : LfL2 P w M (u :: ts) cs) : ∃ (x : Int) (cs' : List Value), cs = .int k x :: cs' ∧ LfL2 P w M ts cs' := by
 obtain ⟨x, c, h1, _, h2⟩ := h.intH hku
 exact ⟨x, c, h1, h2⟩
theorem LfL2.bool {P : Program} {w : World} {M : Nat} {u : TypeId} (hku : P.underlying u = some .bool) {ts : List TypeId} {cs : List Value} (h : LfL2 P w M (u :: ts) cs) : ∃ (x : Bool) (cs' : List Value), cs = .bool x :: cs' ∧ LfL2 P w M ts cs' := by
 obtain ⟨c1, c2, rfl, h2, h3⟩ := LfL2.cut (n := 1) (fun e he => by rw [hku] at he; cases he) h
 obtain ⟨x, c', rfl, h5⟩ := LfL.bool hku h2
 cases h5
 exact ⟨x, c2, rfl, h3⟩
theorem LfL2.bytes {P : Program} {w : World} {M : Nat} {u e : TypeId} {k : IntKind} (hku : P.underlying u = some (.slice e)) (hke : P.underlying e = some (.int k)) {ts : List TypeId} {cs : List Value} (h : LfL2 P w M (u :: ts) cs) :
   ∃ (r : Rg) (a : Option Addr) (cap : Nat) (X : List Byte) (i : Nat) (cs' : List Value), (r.at w ∧ r.rw = false) ∧ Bx [r] i a X.length cap X ∧ cs = .slice a X.length cap :: cs' ∧ LfL2 P w M ts cs' ∧ X.length ≤ M := by
 cases h with
 | cons h1 t =>
   cases h1 with
   | one h1 =>
     obtain ⟨r, a, cap, X, i, c', g1, g2, g3, g4, g5⟩ := LfL.bytes hku (.cons h1 .nil)
     cases g4
     obtain rfl := (List.cons.inj g3).1
     exact ⟨r, a, cap, X, i, _, g1, g2, rfl, t, g5⟩
   | rows hu he =>
     rw [hku] at hu
     obtain rfl := TypeDesc.slice.inj (Option.some.inj hu)
     exact absurd hke (he k)
section
variable {P : Program} {R : Outcome → Env → World → Prop} {n : Nat} {e : Env} {w : World} {K : Env → World → Prop}
end
section
variable {P : Program} {n : Nat} {K : Pend → Env → World → Prop} {l : List It} {O O' : Pend} {e : Env} {w : World} {i ty : Nat} {d : Tmp} {pos : String} {aft : Array Edge} {gd g : Option (Nat × Bool)}
end
end Go.LW
namespace Go.LW
set_option linter.unusedSimpArgs false
set_option linter.unusedVariables false
set_option linter.unusedSectionVars false
open Go
section
variable {P : Program} {n : Nat} {R : Exit → Env → World → Prop} {e : Env} {w : World}
def GL (P : Program) (n : Nat) : List Code → (Exit → Env → World → Prop) → Env → World → Prop
 | [], R, e, w => R .normal e w
 | [c], R, e, w => W P n c R e w
 | c :: l, R, e, w => W P n c (thenR (fun e w => GL P n l R e w) R) e w
def seqs : List Code → Code → Code
 | [], y => y
 | c :: l, y => .seq c (seqs l y)
theorem thenR_thenR {K K' : Env → World → Prop} : thenR K (thenR K' R) = thenR K R := by
 funext ex e w; cases ex <;> rfl
theorem GL.seqs_k : ∀ {l : List Code} {y : Code} {R : Exit → Env → World → Prop} {e : Env} {w : World}, l ≠ [] → GL P n l (thenR (fun e w => W P n y R e w) R) e w → W P n (seqs l y) R e w
 | [], _, _, _, _, h, _ => absurd rfl h
 | [c], y, R, e, w, _, h => W.seq h
 | c :: d :: l, y, R, e, w, _, h => by
   refine W.seq (W.mono (show W P n c (thenR (fun e w => GL P n (d :: l) (thenR (fun e w => W P n y R e w) R) e w) (thenR (fun e w => W P n y R e w) R)) e w from h) fun ex e w hq => ?_)
   rw [thenR_thenR] at hq
   cases ex <;> first | exact hq | exact GL.seqs_k (by simp) hq
theorem GL.open {l : List Code} {y : Code} (hl : l ≠ []) (h : ∀ K : Env → World → Prop, (∀ e w, W P n y R e w → K e w) → GL P n l (thenR K R) e w) : W P n (seqs l y) R e w :=
 GL.seqs_k hl (h _ fun _ _ h => h)
theorem GL.next {c d : Code} {l : List Code} (h : ∀ K : Env → World → Prop, (∀ e w, GL P n (d :: l) R e w → K e w) → W P n c (thenR K R) e w) : GL P n (c :: d :: l) R e w :=
 h (fun e w => GL P n (d :: l) R e w) fun _ _ h => h
theorem GL.one {c : Code} (h : W P n c R e w) : GL P n [c] R e w := h
theorem GL.mono : ∀ {l : List Code} {R R' : Exit → Env → World → Prop} {e : Env} {w : World}, GL P n l R e w → (∀ ex e w, R ex e w → R' ex e w) → GL P n l R' e w
 | [], _, _, _, _, h, hq => hq _ _ _ h
 | [c], _, _, _, _, h, hq => W.mono h hq
 | c :: d :: l, R, R', e, w, h, hq => by
   refine W.mono (show W P n c (thenR (fun e w => GL P n (d :: l) R e w) R) e w from h) fun ex e w h => ?_
   cases ex <;> first | exact hq _ _ _ h | exact GL.mono h hq
end
end Go.LW
namespace Go.LW
set_option linter.unusedSimpArgs false
set_option linter.unusedVariables false
set_option linter.unusedSectionVars false
open Go Go.RowKit
section run
variable {P : Program} {B : Nat} {w0 : Base} {w : World} {L : List Rg}
end run
theorem Ow.zero {a : Option Addr} {pb : Option Nat} {len cap : Nat} {F : Nat → Byte} {X : List Byte} (h : Ow a pb len cap F X) : Ow a pb ([] : List Byte).length cap F [] := ⟨h.ho, Nat.zero_le _, rfl, fun q hq => absurd hq (Nat.not_lt_zero q)⟩
section step
variable {P : Program} {n : Nat} {K : Pend → Env → World → Prop} {l : List It} {O O' : Pend} {e : Env} {w : World} {i ty : Nat} {d : Tmp} {pos : String} {aft : Array Edge} {gd g : Option (Nat × Bool)}
variable {B : Nat} {w0 : Base} {L : List Rg} {D : EL}
end step
end Go.LW
