import Derived.Test.YtbkgblhmlenocaaEb
import Derived.Lib.MakeNoZero
import Derived.Laws.IdiomStrings
import Derived.OpenShut
import Derived.ChangeSlices
import Derived.SizedLaws
import Derived.Lib.BytesEntry
namespace Go.LW
set_option linter.unusedSimpArgs false
set_option linter.unusedVariables false
set_option linter.unusedSectionVars false
open Go Go.RowKit
def EqV (P : Program) (d : Nat) (t : TypeId) (v v' : Value) (b : Bool) : Prop := ∀ w, (Op.equalIn d t v v').run P w = .ok b w
def intT (P : Program) (t : TypeId) (k : IntKind) : Bool := match P.underlying t with | some (.int q) => q == k | _ => false
theorem intT_spec {P : Program} {t : TypeId} {k : IntKind} (h : intT P t k = true) : P.underlying t = some (.int k) := by
 unfold intT at h
 cases hu : P.underlying t with
 | none => rw [hu] at h; cases h
 | some q =>
   rw [hu] at h
   cases q <;> try (cases h; done)
   simp only [beq_iff_eq] at h
   subst h; rfl
section
variable {P : Program} {d : Nat} {t : TypeId}
theorem EqV.int {k : IntKind} {a b : Int} (h : intT P t k = true) : EqV P (d + 1) t (.int k a) (.int k b) (decide (a = b)) := fun w => by
 rw [run_equalIn_int w d t k k a b (intT_spec h)]
 congr 1
theorem EqV.u {k : IntKind} {s : Nat} {a b : BitVec s} (h : intT P t k = true) : EqV P (d + 1) t (VU k a) (VU k b) (decide (a = b)) := fun w => by
 rw [run_equalIn_int w d t k k _ _ (intT_spec h)]
 congr 1
 rw [Bool.eq_iff_iff, beq_iff_eq, decide_eq_true_iff, BitVec.toNat_eq]; omega
theorem EqV.bool {a b : Bool} (h : P.underlying t = some .bool) : EqV P (d + 1) t (.bool a) (.bool b) (a == b) := fun w => run_equalIn_bool' w d t a b h
inductive EqF (P : Program) (d : Nat) (ps qs : PS) : List (TypeId × Nat) → Bool → Prop
 | nil : EqF P d ps qs [] true
 | agg {ft off : Nat} {fs : List (TypeId × Nat)} {b r : Bool} (A Y C A' Y' C' : PS) (hp : ps = A ++ Y ++ C) (hq : qs = A' ++ Y' ++ C') (ho : (A.map (·.1)).sum = off) (ho' : (A'.map (·.1)).sum = off)
     (ha : aggT P ft (Y.map (·.1)).sum = true) (ha' : aggT P ft (Y'.map (·.1)).sum = true) (h : EqV P d ft (AG Y) (AG Y') b) (t : EqF P d ps qs fs r) : EqF P d ps qs ((ft, off) :: fs) (b && r)
 | one {ft off : Nat} {fs : List (TypeId × Nat)} {b r : Bool} {v v' : Value} (A C A' C' : PS) (F F' : Nat → Value) (hp : ps = A ++ [(1, F)] ++ C) (hq : qs = A' ++ [(1, F')] ++ C') (ho : (A.map (·.1)).sum = off) (ho' : (A'.map (·.1)).sum = off)
     (ha : scalarT P ft = true) (hv : F 0 = v) (hv' : F' 0 = v') (h : EqV P d ft v v' b) (t : EqF P d ps qs fs r) : EqF P d ps qs ((ft, off) :: fs) (b && r)
theorem run_partS {ft off : Nat} {A C : PS} {F : Nat → Value} {v : Value} (ha : scalarT P ft = true) (ho : (A.map (·.1)).sum = off) (hv : F 0 = v) (w : World) : (part ft (catL (A ++ [(1, F)] ++ C)).toArray off).run P w = .ok v w := by
 unfold part
 rw [Sem.run_bind, run_isAggN ha w]
 have : (catL (A ++ [(1, F)] ++ C)).toArray[off]? = some v := by
   rw [catL_app, catL_app, ← ho, ← catL_length]
   simp [catL_one, hv]
 simp only [Result.andThen, Bool.false_eq_true, if_false, this, Sem.run_pure]
theorem run_partA' {ft off : Nat} {A Y C : PS} (ha : aggT P ft (Y.map (·.1)).sum = true) (ho : (A.map (·.1)).sum = off) (w : World) : (part ft (catL (A ++ Y ++ C)).toArray off).run P w = .ok (AG Y) w := by
 rw [catL_app, catL_app, ← ho, ← catL_length]
 exact run_partA ha rfl (catL_length _) w
theorem EqF.run {ps qs : PS} : ∀ {l : List (TypeId × Nat)} {b : Bool}, EqF P d ps qs l b → ∀ (fs : List Field), fs.map (fun f => (f.type, f.offset)) = l → (∀ f ∈ fs, f.name ≠ "_") → ∀ w, (Op.eqFields d (catL ps).toArray (catL qs).toArray fs).run P w = .ok b w := by
 intro l b h
 induction h with
 | nil =>
   intro fs hl _ w
   obtain rfl : fs = [] := List.map_eq_nil_iff.1 hl
   simp [Op.eqFields]
 | @agg ft off l b r A Y C A' Y' C' hp hq ho ho' ha ha' h t ih =>
   intro fs hl hn w
   cases fs with
   | nil => cases hl
   | cons f fs =>
     simp only [List.map_cons, List.cons.injEq, Prod.mk.injEq] at hl
     obtain ⟨⟨rfl, rfl⟩, hl⟩ := hl
     simp only [Op.eqFields, if_pos (hn f List.mem_cons_self), Sem.run_bind]
     have e1 := run_partA' (P := P) (C := C) ha ho w
     have e2 := run_partA' (P := P) (C := C') ha' ho' w
     rw [← hp] at e1
     rw [← hq] at e2
     simp only [e1, e2, Result.andThen_ok, h w]
     cases b with
     | true =>
       simp only [Bool.not_true, Bool.false_eq_true, if_false, Bool.true_and]
       exact ih fs hl (fun g hg => hn g (List.mem_cons_of_mem _ hg)) w
     | false => simp
 | @one ft off l b r v v' A C A' C' F F' hp hq ho ho' ha hv hv' h t ih =>
   intro fs hl hn w
   cases fs with
   | nil => cases hl
   | cons f fs =>
     simp only [List.map_cons, List.cons.injEq, Prod.mk.injEq] at hl
     obtain ⟨⟨rfl, rfl⟩, hl⟩ := hl
     simp only [Op.eqFields, if_pos (hn f List.mem_cons_self), Sem.run_bind]
     have e1 := run_partS (P := P) (C := C) ha ho hv w
     have e2 := run_partS (P := P) (C := C') ha ho' hv' w
     rw [← hp] at e1
     rw [← hq] at e2
     simp only [e1, e2, Result.andThen_ok, h w]
     cases b with
     | true =>
       simp only [Bool.not_true, Bool.false_eq_true, if_false, Bool.true_and]
       exact ih fs hl (fun g hg => hn g (List.mem_cons_of_mem _ hg)) w
     | false => simp
def fieldsB (P : Program) (t : TypeId) (l : List (TypeId × Nat)) : Bool := match P.underlying t with
 | some (.struct fs) => fs.toList.map (fun f => (f.type, f.offset)) == l && fs.toList.all (fun f => f.name != "_") && !P.stoodInHeld t
 | _ => false
theorem EqV.struct {l : List (TypeId × Nat)} {ps qs : PS} {b : Bool} (hB : fieldsB P t l = true) (h : EqF P d ps qs l b) : EqV P (d + 1) t (AG ps) (AG qs) b := fun w => by
 unfold fieldsB at hB
 cases hu : P.underlying t with
 | none => rw [hu] at hB; cases hB
 | some u =>
   rw [hu] at hB
   cases u <;> try (cases hB; done)
   rename_i fs
   simp only [Bool.and_eq_true, beq_iff_eq, Bool.not_eq_true', List.all_eq_true, bne_iff_ne, ne_eq] at hB
   obtain ⟨⟨h1, h2⟩, h3⟩ := hB
   have hf : P.fieldsOf t = fs := by unfold Program.fieldsOf; rw [hu]
   unfold AG
   rw [run_equalIn_struct w d t _ _ (by rw [hu, hf]) h3, hf]
   exact h.run fs.toList h1 (fun f hf => h2 f hf) w
end
section step
variable {P : Program} {n : Nat} {K : Pend → Env → World → Prop} {l : List It} {O O' : Pend} {e : Env} {w : World} {i ty : Nat} {d : Tmp} {pos : String} {aft : Array Edge} {gd g : Option (Nat × Bool)}
theorem toNat_lt {x : Int} {m : Nat} (h0 : 0 ≤ x) (h : x < (m : Int)) : x.toNat < m := by omega
theorem Plan.buildE {B : Nat} {w0 : Base} {L : List Rg} (hst : St B w0 L w) {t el : TypeId} {sz : Nat} (F : Nat → Value) (hu : P.underlying t = some (.slice el)) (hs : szT P el sz = true) (hg : wantedE n e g = true) (hO : EffO aft O L O')
   (h : ∀ b w', B ≤ b → St B w0 (⟨some b, 0, 0, F, true⟩ :: L) w' → Plan P n K l O' (upd e d (.slice (some ⟨b, 0, none⟩) 0 0)) w') :
   Plan P n K (⟨i, false, ⟨some d, .buildSlice t 0 #[], ty, pos, aft, gd⟩, g⟩ :: l) O e w := by
 have h' := hst.alloc [] el
 have h2 : St B w0 (⟨some w.heap.size, 0, 0, F, true⟩ :: L) (w.alloc (.cells (catL []).toArray el)) :=
   St.cons (show St B w0 L _ from h') (fun j hj => absurd hj (Nat.not_lt_zero j)) (fun _ j hj => absurd hj (Nat.not_lt_zero j)) (fun s _ _ => .inr (.inr (.inr (.inl rfl))))
 have hr : (execOp (ev n e) ⟨some d, .buildSlice t 0 #[], ty, pos, aft, gd⟩).run P w = .ok (.value (.slice (some ⟨w.heap.size, 0, none⟩) 0 0)) (w.alloc (.cells (catL []).toArray el)) := run_v (by
   simp [Instr.buildSlice, Sem.run_bind, run_underlying hu w, Result.andThen, szT_spec hs, newRow, newObj, Instr.fill, catL]
   rw [show ∀ v : Value, Array.map (fun _ : Nat => v) (Array.range 0) = #[] from fun _ => by simp]
   rfl)
 cases hO with
 | keep hp => refine Plan.eff hg ?_; rw [hr]; exact .inl ⟨(hp.app _ rfl).keep h', h _ _ hst.base h2⟩
 | wait hw => refine Plan.eff hg ?_; rw [hr]; exact .inr ⟨hw, h _ _ hst.base h2⟩
 | mix O' hf hp => refine Plan.effX hg ?_; rw [hr]; exact ⟨PIn.mix hf (hp.app _ rfl) h', (show (O.filter fun p => !waitsA aft p.1) = O' from hf) ▸ h _ _ hst.base h2⟩
theorem Ow.empty {b : Nat} : Ow (some ⟨b, 0, none⟩) (some b) ([] : List Byte).length 0 (fun _ => 0#8) [] := ⟨.inr ⟨b, rfl, rfl⟩, Nat.le_refl _, rfl, fun q hq => absurd hq (Nat.not_lt_zero q)⟩
theorem LO.empty {D : EL} {L : List Rg} {b : Nat} {F : Nat → Value} : LO D L (some ⟨b, 0, none⟩) (some b) ([] : List D.α).length 0 F [] := ⟨.inr ⟨b, rfl, rfl⟩, Nat.le_refl _, rfl, fun j x hx => by simp at hx, fun q hq => absurd hq (by simp)⟩
end step
def Ones : List (Nat × (Nat → Value)) → Prop
 | [] => True
 | p :: ps => (∀ q, (p.2 q).oneCell' = true) ∧ Ones ps
theorem Ones.mem : ∀ {ps : List (Nat × (Nat → Value))}, Ones ps → ∀ v ∈ catL ps, v.oneCell' = true
 | [], _, v, hv => by simp [catL] at hv
 | p :: ps, h, v, hv => by
   rw [catL_cons] at hv
   rcases List.mem_append.1 hv with hv | hv
   · obtain ⟨q, _, rfl⟩ := List.mem_map.1 hv
     exact h.1 q
   · exact Ones.mem h.2 v hv
section step
variable {P : Program} {n : Nat} {K : Pend → Env → World → Prop} {l : List It} {O O' : Pend} {e : Env} {w : World} {i ty : Nat} {d : Tmp} {pos : String} {aft : Array Edge} {gd g : Option (Nat × Bool)}
variable {B : Nat} {w0 : Base} {L L' : List Rg} {D : EL}
theorem LO.lvf {a : Option Addr} {pb : Option Nat} {len cap : Nat} {F : Nat → Value} {X : List D.α} (hf : D.flat) (h : LO D [] a pb len cap F X) (k : Nat) (hL : L[k]? = some ⟨pb, 0, cap * D.sz, F, true⟩) : LV D L k a len cap X := h.lv (fun b x hs => hf _ _ b x hs) k hL
theorem Plan.idxLVS (_ : St B w0 L w) {t : TypeId} {x y : Operand} {k : IntKind} {ix len cc j sz : Nat} {a : Option Addr} {X : List D.α} (hX : LV D L ix a len cc X) (ha : slB P t sz = true) (hg : wantedE n e g = true) (hx : ev n e x = .slice a len cc) (hy : ev n e y = .int k (j : Int)) (hj : j < len)
   (h : Plan P n K l O (upd e d (.pointer (a.map fun z => ⟨z.block, z.off + j * sz, none⟩))) w) : Plan P n K (⟨i, true, ⟨some d, .indexAddr t x y, ty, pos, aft, gd⟩, g⟩ :: l) O e w := Plan.idxLV hX ha hg hx hy hj h
theorem LV.two {L L' : List Rg} (hf : D.flat) {i i1 i2 j1 j2 : Nat} {a : Option Addr} {len cc : Nat} {X : List D.α} {r1 r2 : Rg} (h : LV D L i a len cc X) (hi : i = i1 ∨ i = i2) (h1 : L[i1]? = some r1) (h2 : L[i2]? = some r2) (k1 : L'[j1]? = some r1) (k2 : L'[j2]? = some r2) : LV D L' (if i = i1 then j1 else j2) a len cc X := by
 by_cases h0 : i = i1
 · rw [if_pos h0]; exact h.move hf (by rw [h0]; exact h1) k1
 · rw [if_neg h0]; exact h.move hf (by rw [hi.resolve_left h0]; exact h2) k2
def w64 (z : Int) : Int := (z + 9223372036854775808) % 18446744073709551616 - 9223372036854775808
theorem wrap_w64 (z : Int) : IntKind.i64.wrap z = w64 z := by rw [IntKind.wrap_i64]; unfold w64; omega
theorem Plan.addW {t yt : TypeId} {x y : Operand} {a b : Int} (hg : wantedE n e g = true) (hx : ev n e x = .int .i64 a) (hy : ev n e y = .int .i64 b)
   (h : Plan P n K l O (upd e d (.int .i64 (w64 (a + b)))) w) : Plan P n K (⟨i, true, ⟨some d, .binOp .add t x y yt, ty, pos, aft, gd⟩, g⟩ :: l) O e w :=
 Plan.arith hg hx hy (wrap_w64 _) h
theorem Plan.addStr {t yt : TypeId} {x y : Operand} {X Y : List Byte} (hb : X.length + Y.length ≤ 9223372036854775807) (hg : wantedE n e g = true) (hx : ev n e x = .string (strL X)) (hy : ev n e y = .string (strL Y))
   (h : Plan P n K l O (upd e d (.string (strL (X ++ Y)))) w) : Plan P n K (⟨i, true, ⟨some d, .binOp .add t x y yt, ty, pos, aft, gd⟩, g⟩ :: l) O e w :=
 Plan.val hg (fun w => run_v (by
   rw [hx, hy]
   have hq : (eqGuard .add t x y (.string (strL X)) (.string (strL Y))).run P w = .ok () w := rfl
   rw [Sem.run_bind, hq]
   show (Op.stringOp .add (strL X) (strL Y)).run P w = _
   have e1 : ∀ Z : List Byte, (strL Z).size = Z.length := fun Z => by
     unfold strL
     have := congrArg List.length (strOfNums_data (Z.map fun b => (b.toNat : Int)))
     simpa using this
   have e2 : strL X ++ strL Y = strL (X ++ Y) := by
     apply ByteArray.ext
     apply Array.toList_inj.1
     rw [ByteArray.data_append, Array.toList_append]
     unfold strL
     rw [strOfNums_data, strOfNums_data, strOfNums_data, List.map_append, List.map_append]
   simp only [Op.stringOp, e1]
   rw [if_neg (by show ¬ _ > (9223372036854775807 : Int); omega), e2]
   rfl)) h
end step
end Go.LW
namespace Go.LW
set_option linter.unusedSimpArgs false
set_option linter.unusedVariables false
set_option linter.unusedSectionVars false
open Go Go.RowKit
theorem Filt.nil {aft : Array Edge} : ([] : Pend).filter (fun p => !waitsA aft p.1) = [] := rfl
theorem Filt.drop {aft : Array Edge} {k : Nat} {S : World → Prop} {O O' : Pend} (h : waitsA aft k = true) (t : O.filter (fun p => !waitsA aft p.1) = O') : ((k, S) :: O : Pend).filter (fun p => !waitsA aft p.1) = O' := by
 rw [List.filter_cons, if_neg (by show ¬ (!waitsA aft k) = true; rw [h]; exact Bool.false_ne_true)]; exact t
theorem Filt.keep {aft : Array Edge} {k : Nat} {S : World → Prop} {O O' : Pend} (h : waitsA aft k = false) (t : O.filter (fun p => !waitsA aft p.1) = O') : ((k, S) :: O : Pend).filter (fun p => !waitsA aft p.1) = (k, S) :: O' := by
 rw [List.filter_cons, if_pos (by show (!waitsA aft k) = true; rw [h]; rfl), t]
section step
variable {P : Program} {n : Nat} {K : Pend → Env → World → Prop} {l : List It} {O O' : Pend} {e : Env} {w : World} {i ty : Nat} {d : Tmp} {pos : String} {aft : Array Edge} {gd g : Option (Nat × Bool)}
variable {B : Nat} {w0 : Base} {L L' : List Rg}
end step
end Go.LW
namespace Go.LW
set_option linter.unusedSimpArgs false
set_option linter.unusedVariables false
set_option linter.unusedSectionVars false
open Go Go.RowKit
inductive CkL (P : Program) (w : World) (r : Reach) (base : Nat) : List TypeId → List Value → Prop
 | nil : CkL P w r base [] []
 | cons {u : TypeId} {v : Value} {ts : List TypeId} {cs : List Value} (h : Cell.okWide P w r base u v) (t : CkL P w r base ts cs) : CkL P w r base (u :: ts) (v :: cs)
def AggP (v : Value) (ps : List (Nat × (Nat → Value))) (cs : List Value) : Prop := v = .agg (catL ps ++ cs).toArray
theorem AggP.int {P : Program} {w : World} {r : Reach} {base : Nat} {v : Value} {ps : List (Nat × (Nat → Value))} {cs : List Value} {u : TypeId} {k : IntKind} {ts : List TypeId} (hku : P.underlying u = some (.int k)) (hv : AggP v ps cs) (h : CkL P w r base (u :: ts) cs) :
   ∃ (x : Int) (cs' : List Value), k.has x ∧ AggP v (ps ++ [(1, fun _ => .int k x)]) cs' ∧ CkL P w r base ts cs' := by
 cases h with
 | cons h1 t =>
   obtain ⟨x, rfl, hx⟩ := cell_u hku h1
   refine ⟨x, _, hx, ?_, t⟩
   unfold AggP at hv ⊢
   rw [hv]
   unfold catL
   simp [List.flatMap_append, List.range_succ]
theorem AggP.bool {P : Program} {w : World} {r : Reach} {base : Nat} {v : Value} {ps : List (Nat × (Nat → Value))} {cs : List Value} {u : TypeId} {ts : List TypeId} (hku : P.underlying u = some .bool) (hv : AggP v ps cs) (h : CkL P w r base (u :: ts) cs) :
   ∃ (x : Bool) (cs' : List Value), AggP v (ps ++ [(1, fun _ => .bool x)]) cs' ∧ CkL P w r base ts cs' := by
 cases h with
 | cons h1 t =>
   rename_i v' cs'
   have : ∃ x, v' = .bool x := by
     unfold Cell.okWide at h1
     rw [hku] at h1
     cases v' <;> simp [Cell.ok, hku] at h1
     exact ⟨_, rfl⟩
   obtain ⟨x, rfl⟩ := this
   refine ⟨x, _, ?_, t⟩
   unfold AggP at hv ⊢
   rw [hv]
   unfold catL
   simp [List.flatMap_append, List.range_succ]
theorem PIn.or {O : Pend} {L : List Rg} {k : Nat} {r : Rg} (i : Nat) (h : r.n = 0 ∨ L[i]? = some r) (t : PIn O L) : PIn ((k, r.at) :: O) L := by
 rcases h with h | h
 · have e : r.at = fun _ => True := by
     funext w
     exact propext ⟨fun _ => trivial, fun _ j hj => absurd hj (by omega)⟩
   rw [e]
   exact .tru t
 · exact .cons i h t
theorem or_un {L : List Rg} {i : Nat} {r : Rg} (C : List Rg) (h : r.n = 0 ∨ (C ++ L)[i + C.length]? = some r) : r.n = 0 ∨ L[i]? = some r := h.imp_right fun h => flun h
section step
variable {P : Program} {n : Nat} {K : Pend → Env → World → Prop} {l : List It} {O O' : Pend} {e : Env} {w : World} {i ty : Nat} {d : Tmp} {pos : String} {aft : Array Edge} {gd g : Option (Nat × Bool)}
variable {B : Nat} {w0 : Base} {L L' : List Rg} {D : EL}
end step
end Go.LW
namespace Go.LW
set_option linter.unusedSimpArgs false
set_option linter.unusedVariables false
set_option linter.unusedSectionVars false
open Go Go.RowKit
inductive Leaf (P : Program) (w : World) (M : Nat) : TypeId → Value → Prop
 | int {u : TypeId} {k : IntKind} {n : Int} (hu : P.underlying u = some (.int k)) (h : (Lit.int k n).wf = true) : Leaf P w M u (.int k n)
 | bool {u : TypeId} {b : Bool} (hu : P.underlying u = some .bool) : Leaf P w M u (.bool b)
 | bytes {u e : TypeId} {a : Option Addr} {len cap : Nat} {zs : List Int} (hu : P.underlying u = some (.slice e)) (he : P.underlying e = some (.int .u8)) (h : IsRow .u8 w a len cap zs) (hb : cap ≤ M) : Leaf P w M u (.slice a len cap)
inductive LfL (P : Program) (w : World) (M : Nat) : List TypeId → List Value → Prop
 | nil : LfL P w M [] []
 | cons {u : TypeId} {v : Value} {ts : List TypeId} {cs : List Value} (h : Leaf P w M u v) (t : LfL P w M ts cs) : LfL P w M (u :: ts) (v :: cs)
theorem LfL.append {P : Program} {w : World} {M : Nat} {ts ts' : List TypeId} {cs cs' : List Value} (h : LfL P w M ts cs) (h' : LfL P w M ts' cs') : LfL P w M (ts ++ ts') (cs ++ cs') := by
 induction h with
 | nil => exact h'
 | cons h _ ih => exact .cons h ih
theorem LfL.length {P : Program} {w : World} {M : Nat} {ts : List TypeId} {cs : List Value} (h : LfL P w M ts cs) : cs.length = ts.length := by
 induction h with
 | nil => rfl
 | cons _ _ ih => rw [List.length_cons, List.length_cons, ih]
def fieldsL (P : Program) (lf : TypeId → Option (List TypeId)) : List Field → Nat → Option (List TypeId)
 | [], _ => some []
 | f :: fs, o => if f.offset = o then
     match lf f.type with
     | some l => if P.cellsOf f.type = l.length then (fieldsL P lf fs (o + l.length)).map (l ++ ·) else none
     | none => none
   else none
def leafs (P : Program) : Nat → TypeId → Option (List TypeId)
 | 0, _ => none
 | n + 1, t => match P.underlying t with
   | some (.int _) => some [t]
   | some .bool => some [t]
   | some (.slice e) => match P.underlying e with
     | some (.int .u8) => if P.cellsOf e = 1 ∧ P.bytesOf e = 1 then some [t] else none
     | _ => none
   | some (.struct fs) => match fieldsL P (leafs P n) fs.toList 0 with
     | some l => if P.cellsOf t = l.length then some l else none
     | none => none
   | some (.array m e) => match leafs P n e with
     | some l => if P.cellsOf e = l.length ∧ P.cellsOf t = m * l.length then some (List.replicate m l).flatten else none
     | none => none
   | _ => none
section
variable {H : Type} {enc : TypeId × Value → H} {P : Program} {w : World} {M : Nat} {held : Bool} {K : TypeId → DataW H → Prop}
end
structure LRows (P : Program) (w : World) (M : Nat) (ts : List TypeId) (a : Option Addr) (len cap : Nat) (p : Option Nat) (off : Nat) (G : Nat → Value) : Prop where
 at_ : (Rg.mk p off (cap * ts.length) G false).at w
 sl : SlV a p off len
 le : len ≤ cap
 big : cap ≤ maxLen
 el : ∀ i, i < cap → LfL P w M ts ((List.range ts.length).map fun j => G (i * ts.length + j))
theorem St.roL {B : Nat} {w0 : Base} {w : World} {L : List Rg} (h : St B w0 L w) (hr : LW.roL L) : ∀ (R : List Rg), (∀ r ∈ R, r.at w ∧ r.rw = false) → St B w0 (R ++ L) w ∧ LW.roL (R ++ L)
 | [], _ => ⟨h, hr⟩
 | r :: R, hR => by
   obtain ⟨h1, h2⟩ := h.roL hr R (fun q hq => hR q (List.mem_cons_of_mem _ hq))
   obtain ⟨h3, h4⟩ := hR r List.mem_cons_self
   obtain ⟨p, off, n, f, rw⟩ := r
   simp only at h4
   subst h4
   exact h1.roC h2 h3
def Opens (P : Program) (w : World) (M : Nat) (D : EL) (ts : List TypeId) (Q : D.α → Prop) : Prop := ∀ cells, LfL P w M ts cells → ∃ (R : List Rg) (b : D.β) (x : D.α), (∀ r ∈ R, r.at w ∧ r.rw = false) ∧ D.side R b x ∧ cells = catL (D.E b x) ∧ Q x
def EL.lifts (D : EL) : Prop := ∀ L L' b x, (∀ r ∈ L, r ∈ L') → D.side L b x → D.side L' b x
theorem LRows.lv {P : Program} {M : Nat} {B : Nat} {w0 : Base} {w : World} {L : List Rg} {D : EL} {ts : List TypeId} {a : Option Addr} {len cap : Nat} {p : Option Nat} {off : Nat} {G : Nat → Value} (h : LRows P w M ts a len cap p off G) (hst : St B w0 L w) (hr : LW.roL L) {Q : D.α → Prop} (ho : Opens P w M D ts Q) (hl : D.lifts) (hsz : D.sz = ts.length) :
   ∃ (C : List Rg) (X : List D.α), St B w0 (C ++ L) w ∧ LW.roL (C ++ L) ∧ LV D (C ++ L) 0 a len cap X ∧ ∀ (j : Nat) x, X[j]? = some x → Q x := by
 have each : ∀ i, i < cap → ∃ (R : List Rg) (b : D.β) (x : D.α), (∀ r ∈ R, r.at w ∧ r.rw = false) ∧ D.side R b x ∧ ((List.range ts.length).map fun j => G (i * ts.length + j)) = catL (D.E b x) ∧ Q x := fun i hi => ho _ (h.el i hi)
 have hle := h.le
 -- the elements, one by one
 have all : ∀ m, m ≤ len → ∃ (R : List Rg) (X : List D.α), X.length = m ∧ (∀ r ∈ R, r.at w ∧ r.rw = false) ∧ ∀ j x, X[j]? = some x → ∃ b, D.side R b x ∧ ((List.range ts.length).map fun q => G (j * ts.length + q)) = catL (D.E b x) ∧ Q x := by
   intro m
   induction m with
   | zero =>
     intro _
     refine ⟨[], [], rfl, fun r hr => ?_, fun j x hx => ?_⟩
     · cases hr
     · rw [List.getElem?_nil] at hx; cases hx
   | succ m ih =>
     intro hm
     obtain ⟨R, X, h1, h2, h3⟩ := ih (by omega)
     obtain ⟨R1, b, x, h4, h5, h6⟩ := each m (by omega)
     refine ⟨R ++ R1, X ++ [x], by rw [List.length_append, h1]; rfl, fun r hr => (List.mem_append.1 hr).elim (h2 r) (h4 r), fun j y hy => ?_⟩
     by_cases hj : j < m
     · rw [List.getElem?_append_left (by omega)] at hy
       obtain ⟨b', h7, h8⟩ := h3 j y hy
       exact ⟨b', hl _ _ _ _ (fun r hr => List.mem_append_left _ hr) h7, h8⟩
     · have hjm : j = m := by
         have := (List.getElem?_eq_some_iff.1 hy).1
         rw [List.length_append, h1, List.length_singleton] at this; omega
       subst hjm
       rw [List.getElem?_append_right (by omega), h1, Nat.sub_self] at hy
       obtain rfl : x = y := Option.some.inj hy
       exact ⟨b, hl _ _ _ _ (fun r hr => List.mem_append_right _ hr) h5, h6⟩
 obtain ⟨R, X, h1, h2, h3⟩ := all len (Nat.le_refl _)
 obtain ⟨s1, s2⟩ := hst.roL hr (⟨p, off, cap * ts.length, G, false⟩ :: R) (fun r hr => by
   rcases List.mem_cons.1 hr with rfl | hr
   · exact ⟨h.at_, rfl⟩
   · exact h2 r hr)
 refine ⟨_, X, s1, s2, ⟨h1, hle, fun _ => ⟨off, cap * ts.length, 0, off, p, G, false, rfl, h.sl, rfl, by rw [hsz, Nat.zero_add]; exact Nat.mul_le_mul_right _ hle, fun j x hx => ?_⟩⟩, fun j x hx => (h3 j x hx).choose_spec.2.2⟩
 obtain ⟨b, h7, h8, _⟩ := h3 j x hx
 refine ⟨b, hl _ _ _ _ (fun r hr => List.mem_append_left _ (List.mem_cons_of_mem _ hr)) h7, fun k v hv => ?_⟩
 rw [← h8] at hv
 have hk : k < ts.length := by
   have := (List.getElem?_eq_some_iff.1 hv).1
   simpa using this
 rw [List.getElem?_map, List.getElem?_range hk] at hv
 show G (0 + j * D.sz + k) = v
 rw [hsz, Nat.zero_add]
 exact Option.some.inj hv
theorem LfL.int {P : Program} {w : World} {M : Nat} {u : TypeId} {k : IntKind} (hku : P.underlying u = some (.int k)) {ts : List TypeId} {cs : List Value} (h : LfL P w M (u :: ts) cs) : ∃ (x : Int) (cs' : List Value), cs = .int k x :: cs' ∧ LfL P w M ts cs' := by
 cases h with
 | cons h1 t =>
   cases h1 with
   | int hu hw =>
     rw [hku] at hu
     obtain rfl : k = _ := TypeDesc.int.inj (Option.some.inj hu)
     exact ⟨_, _, rfl, t⟩
   | bool hu => rw [hku] at hu; cases hu
   | bytes hu _ _ _ => rw [hku] at hu; cases hu
theorem LfL.bool {P : Program} {w : World} {M : Nat} {u : TypeId} (hku : P.underlying u = some .bool) {ts : List TypeId} {cs : List Value} (h : LfL P w M (u :: ts) cs) : ∃ (x : Bool) (cs' : List Value), cs = .bool x :: cs' ∧ LfL P w M ts cs' := by
 cases h with
 | cons h1 t =>
   cases h1 with
   | bool hu => exact ⟨_, _, rfl, t⟩
   | int hu hw => rw [hku] at hu; cases hu
   | bytes hu _ _ _ => rw [hku] at hu; cases hu
theorem LfL.bytes {P : Program} {w : World} {M : Nat} {u e : TypeId} (hku : P.underlying u = some (.slice e)) {ts : List TypeId} {cs : List Value} (h : LfL P w M (u :: ts) cs) :
   ∃ (r : Rg) (a : Option Addr) (cap : Nat) (X : List Byte) (i : Nat) (cs' : List Value), (r.at w ∧ r.rw = false) ∧ Bx [r] i a X.length cap X ∧ cs = .slice a X.length cap :: cs' ∧ LfL P w M ts cs' ∧ X.length ≤ M := by
 cases h with
 | cons h1 t =>
   cases h1 with
   | int hu hw => rw [hku] at hu; cases hu
   | bool hu => rw [hku] at hu; cases hu
   | bytes hu he hz hb =>
     obtain ⟨r, X, i, h2, h3, h4⟩ := hz.bx (St.init w.heap.size w (Nat.le_refl _)) roL.nil
     have hl := h4.hl
     subst hl
     exact ⟨r, _, _, X, i, _, ⟨h2.at_ r List.mem_cons_self, h3 r List.mem_cons_self⟩, h4, rfl, t, Nat.le_trans h4.2.1 hb⟩
end Go.LW
namespace Go.LW
set_option linter.unusedSimpArgs false
set_option linter.unusedVariables false
set_option linter.unusedSectionVars false
open Go Go.RowKit
theorem zca {α : Type _} {a : α} {l m : List α} : (a :: l) ++ m = a :: (l ++ m) := rfl
theorem zna {α : Type _} {l : List α} : [] ++ l = l := rfl
theorem zfc {α β : Type _} {f : α → Option β} {a : α} {l : List α} : List.filterMap f (a :: l) = match f a with | none => List.filterMap f l | some b => b :: List.filterMap f l := List.filterMap_cons
theorem zfn {α β : Type _} {f : α → Option β} : List.filterMap f [] = [] := rfl
theorem zgz {α : Type _} {a : α} {l : List α} : (a :: l)[0]? = some a := rfl
theorem zgs {α : Type _} {a : α} {l : List α} {i : Nat} : (a :: l)[i + 1]? = l[i]? := rfl
theorem zsz {α : Type _} {a b : α} {l : List α} : (a :: l).set 0 b = b :: l := rfl
theorem zss {α : Type _} {a b : α} {l : List α} {i : Nat} : (a :: l).set (i + 1) b = a :: l.set i b := rfl
theorem zer {e : Env} {s : Nat} {r : List (Nat × Value)} (t : EnvHas e r) : EnvHas e ((s, e s) :: r) := .cons rfl t
theorem zen {e : Env} : EnvHas e [] := .nil
section step
variable {P : Program} {n : Nat} {K : Pend → Env → World → Prop} {l : List It} {O O' : Pend} {e : Env} {w : World} {i ty : Nat} {d : Tmp} {pos : String} {aft : Array Edge} {gd g : Option (Nat × Bool)}
end step
def Rg.ro (r : Rg) : Rg := ⟨r.p, r.off, r.n, r.f, false⟩
section ro
variable {B : Nat} {w0 : Base} {w w' : World} {L : List Rg}
theorem St.asro (h : St B w0 L w) : St w.heap.size ⟨w, []⟩ (L.map Rg.ro) w := by
 refine ⟨Bel.refl _ _, Nat.le_refl _, fun r hr => ?_, fun r hr hw => ?_, ?_⟩
 · obtain ⟨s, hs, rfl⟩ := List.mem_map.1 hr
   exact h.at_ s hs
 · obtain ⟨s, hs, rfl⟩ := List.mem_map.1 hr
   exact Bool.noConfusion (show false = true from hw)
 · rw [List.pairwise_map]
   exact List.Pairwise.imp (fun _ hw => by rcases hw with hw | hw <;> exact Bool.noConfusion (show false = true from hw)) h.apart
end ro
end Go.LW
namespace Go.LW
set_option linter.unusedSimpArgs false
set_option linter.unusedVariables false
set_option linter.unusedSectionVars false
open Go Go.RowKit
section run
variable {P : Program}
end run
section unroll
variable {P : Program} {n : Nat} {R : Exit → Env → World → Prop} {e : Env} {w : World}
def UL (P : Program) (n : Nat) (c : Code) (R : Exit → Env → World → Prop) : Nat → Env → World → Prop
 | 0 => fun _ _ => False
 | m + 1 => fun e w => W P n c (thenR (UL P n c R m) R) e w
theorem UL.next {c : Code} {m : Nat} (h : W P n c (thenR (UL P n c R m) R) e w) : UL P n c R (m + 1) e w := h
theorem UL.nextT {c : Code} {m : Nat} (h : W P n c (thenR (UL P n c R m) R) e w) : thenR (UL P n c R (m + 1)) R .normal e w := h
theorem W.unroll {c : Code} (m : Nat) (h : UL P n c R m e w) : W P n (.loop c) R e w :=
 W.loop (fun m e w => UL P n c R m e w) m h fun m e w hI => by
   cases m with
   | zero => exact hI.elim
   | succ m => exact W.mono hI fun x e w hx => by cases x <;> first | exact ⟨m, Nat.lt_succ_self m, hx⟩ | exact hx
end unroll
section step
variable {P : Program} {n : Nat} {K : Pend → Env → World → Prop} {l : List It} {O O' : Pend} {e : Env} {w : World} {i ty : Nat} {d : Tmp} {pos : String} {aft : Array Edge} {gd g : Option (Nat × Bool)}
end step
end Go.LW
namespace Go.LW
set_option linter.unusedSimpArgs false
set_option linter.unusedVariables false
set_option linter.unusedSectionVars false
open Go Go.RowKit
section
variable {P : Program} {n : Nat} {K : Pend → Env → World → Prop} {l : List It} {O O' : Pend} {e : Env} {w : World} {i ty : Nat} {d : Tmp} {pos : String} {aft : Array Edge} {gd g : Option (Nat × Bool)}
variable {B : Nat} {w0 : Base} {L L' : List Rg}
end
@[reducible] def EL.at (D : EL) (P : List Rg) : EL := { D with side := fun _ b x => D.side P b x, mono := fun _ _ _ _ h => h }
theorem EL.cells.grow {D : EL} {P P' L L' : List Rg} {G : Nat → Value} {x : D.α} (hl : D.lifts) (hp : ∀ r ∈ P, r ∈ P') (h : (D.at P).cells L G x) : (D.at P').cells L' G x := by
 obtain ⟨b, h1, h2⟩ := h
 exact ⟨b, hl _ _ _ _ hp h1, h2⟩
theorem LV.grow {D : EL} {P P' L : List Rg} {i : Nat} {a : Option Addr} {len cc : Nat} {X : List D.α} (hl : D.lifts) (hp : ∀ r ∈ P, r ∈ P') (h : LV (D.at P) L i a len cc X) : LV (D.at P') L i a len cc X := by
 obtain ⟨h1, h2, h3⟩ := h
 refine ⟨h1, h2, fun hn => ?_⟩
 obtain ⟨offs, ms, js, os, ps, G, rw, q1, q2, q3, q4, q5⟩ := h3 hn
 exact ⟨offs, ms, js, os, ps, G, rw, q1, q2, q3, q4, fun j x hx => (q5 j x hx).grow hl hp⟩
theorem LO.grow {D : EL} {P P' L L' : List Rg} {a : Option Addr} {pb : Option Nat} {len cap : Nat} {F : Nat → Value} {X : List D.α} (hl : D.lifts) (hp : ∀ r ∈ P, r ∈ P') (h : LO (D.at P) L a pb len cap F X) : LO (D.at P') L' a pb len cap F X :=
 ⟨h.ho, h.hc, h.hl, fun j x hx => (h.hF j x hx).grow hl hp, h.hK⟩
def Fr2 (A AP B BP : List Rg) : Prop := ∃ C, B = C ++ A ∧ BP = C ++ AP
theorem Fr2.refl (A AP : List Rg) : Fr2 A AP A AP := ⟨[], rfl, rfl⟩
theorem St.re {B : Nat} {w0 : Base} {w : World} {N L M : List Rg} (hL : L = M) (h : St B w0 (N ++ M) w) : St B w0 (N ++ L) w := hL ▸ h
section
variable {P : Program} {n : Nat} {K : Pend → Env → World → Prop} {l : List It} {O O' : Pend} {e : Env} {w : World} {i ty : Nat} {d : Tmp} {pos : String} {aft : Array Edge} {gd g : Option (Nat × Bool)}
variable {B : Nat} {w0 : Base} {L L' : List Rg} {D : EL}
end
end Go.LW
namespace Go.LW
set_option linter.unusedSimpArgs false
set_option linter.unusedVariables false
set_option linter.unusedSectionVars false
open Go Go.RowKit
section
variable {P : Program} {n : Nat} {K : Pend → Env → World → Prop} {l : List It} {O O' : Pend} {e : Env} {w : World} {i ty : Nat} {d : Tmp} {pos : String} {aft : Array Edge} {gd g : Option (Nat × Bool)}
variable {B : Nat} {w0 : Base} {L L' : List Rg}
theorem Plan.appendOK (hst : St B w0 L w) {t t' sz : TypeId} {x y : Operand} {len cap m cy iy : Nat} {a ay : Option Addr} {pb : Option Nat} {F : Nat → Byte} {X Y : List Byte} (k : Nat) (hOw : Ow a pb len cap F X) (he : elD P t = some (1, 1, some (VU .u8 0#8))) (ht' : slB P t' sz = true) (hg : wantedE n e g = true)
   (hx : ev n e x = .slice a len cap) (hy : ev n e y = .slice ay m cy) (hL : L[k]? = some ⟨pb, 0, cap, fun q => VU .u8 (F q), true⟩) (hY : Bx L iy ay m cy Y) (hb : len + m ≤ 140737488355328)
   (hw : ∀ q r, EffO aft O (q :: L.set k r) O')
   (h : ∀ a' pb' cap' (F' : Nat → Byte) r iz w', Ow a' pb' (X ++ Y).length cap' F' (X ++ Y) → (iz = 0 ∨ iz = k + 1) → Bx (⟨pb', 0, cap', fun q => VU .u8 (F' q), true⟩ :: L.set k r) iz a len cap X → St B w0 (⟨pb', 0, cap', fun q => VU .u8 (F' q), true⟩ :: L.set k r) w' → Plan P n K l O' (updO e (some d) (.slice a' (X ++ Y).length cap')) w') :
   Plan P n K (⟨i, false, ⟨some d, .call ⟨.builtin .append, #[x, y], #[t, t']⟩, ty, pos, aft, gd⟩, g⟩ :: l) O e w := by
 have hX := hOw.hl
 have hYl := hY.hl
 have hc := hOw.hc
 have hk : k < L.length := (List.getElem?_eq_some_iff.1 hL).1
 obtain ⟨w', a', pb', cap', ip, r, hr, ho', ⟨hcap, hcc⟩, hst', hcase⟩ := run_appendK (P := P) (ty := ty) (s := 1) (by' := 1) (z := VU .u8 0#8) (zf := fun _ => VU .u8 0#8) (F := fun q => VU .u8 (F q)) (g := fun q => VU .u8 (lit Y q)) (pb := pb) (k := k) (len := len) (cap := cap) hst (elB_of he) rfl (fun q hq => by
     have h0 : q = 0 := by omega
     subst h0; rfl) (by rw [Nat.mul_one]; exact hL) hOw.ho (Src.ofBs hst ht' (hY.bs' k hL)) hOw.hc (by omega) (by omega)
 have hl : (X ++ Y).length = len + m := by rw [List.length_append, hX, hYl]
 have hF' : (fun q => if ip = true ∨ q < (len + m) * 1 then spl (fun q => VU .u8 (F q)) (len * 1) (m * 1) (fun q => VU .u8 (lit Y q)) q else VU .u8 0#8) = fun q => VU .u8 (if ip = true ∨ q < len + m then spl F len m (lit Y) q else 0#8) := by
   funext q
   simp only [Nat.mul_one]
   split
   · unfold spl; split <;> rfl
   · rfl
 rw [hF', Nat.mul_one] at hst'
 have hOw' : Ow a' pb' (X ++ Y).length cap' (fun q => if ip = true ∨ q < len + m then spl F len m (lit Y) q else 0#8) (X ++ Y) := by
   refine ⟨ho', by omega, rfl, fun q hq => ?_⟩
   show _ = if _ then _ else _
   rw [if_pos (.inr (by omega)), lit_app]
   by_cases h1 : q < X.length
   · rw [if_pos h1, spl_out _ _ _ _ _ (by omega)]; exact hOw.hF q (by omega)
   · rw [if_neg h1, spl_in _ _ _ _ _ (by omega), hX]
 have hview : ∃ iz, (iz = 0 ∨ iz = k + 1) ∧ Bx (⟨pb', 0, cap', fun q => VU .u8 (if ip = true ∨ q < len + m then spl F len m (lit Y) q else 0#8), true⟩ :: L.set k r) iz a len cap X := by
   rcases hcase with ⟨h1, h2, h3, h4⟩ | ⟨_, h1⟩
   · subst h1 h2 h3 h4
     refine ⟨0, .inl rfl, Ow.bx (F := fun q => if true = true ∨ q < len + m then spl F len m (lit Y) q else 0#8) ⟨hOw.ho, hOw.hc, hOw.hl, fun q hq => ?_⟩ 0 rfl⟩
     show _ = if _ then _ else _
     rw [if_pos (.inl rfl), spl_out _ _ _ _ _ (by omega)]; exact hOw.hF q hq
   · subst h1
     refine ⟨k + 1, .inr rfl, hOw.bx (k + 1) (rw := true) ?_⟩
     rw [List.getElem?_cons_succ, List.getElem?_set_self hk, Nat.mul_one]
 obtain ⟨iz, hiz, hV⟩ := hview
 refine Plan.effS hg (w' := w') (v := .slice a' (X ++ Y).length cap') (run_blt2 fun c => ?_) hst' (hw _ _) fun w' hw' => h a' pb' cap' _ r iz w' hOw' hiz hV hw'
 rw [hx, hy]
 simp only [builtin, Sem.run_bind, hr, hl]
 rfl
theorem Bx.two {L L' : List Rg} {i i1 i2 j1 j2 : Nat} {a : Option Addr} {len cc : Nat} {X : List Byte} {r1 r2 : Rg} (h : Bx L i a len cc X) (hi : i = i1 ∨ i = i2) (h1 : L[i1]? = some r1) (h2 : L[i2]? = some r2) (k1 : L'[j1]? = some r1) (k2 : L'[j2]? = some r2) : Bx L' (if i = i1 then j1 else j2) a len cc X := by
 by_cases h0 : i = i1
 · rw [if_pos h0]; exact h.move (by rw [h0]; exact h1) k1
 · rw [if_neg h0]; exact h.move (by rw [hi.resolve_left h0]; exact h2) k2
end
end Go.LW
namespace Go.LW
set_option linter.unusedSimpArgs false
set_option linter.unusedVariables false
set_option linter.unusedSectionVars false
open Go Go.RowKit
section
variable {P : Program} {n : Nat} {K : Pend → Env → World → Prop} {l : List It} {O O' : Pend} {e : Env} {w : World} {i ty : Nat} {d : Tmp} {pos : String} {aft : Array Edge} {gd g : Option (Nat × Bool)}
variable {B : Nat} {w0 : Base} {L L' : List Rg} {D : EL}
end
end Go.LW
