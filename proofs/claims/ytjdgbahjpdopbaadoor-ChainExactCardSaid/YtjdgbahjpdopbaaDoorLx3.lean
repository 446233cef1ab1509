/-
  ENGINE X, PART 3 (own work): parts of values; strings; slices of slices of bytes.
-/
import Derived.Test.YtjdgbahjpdopbaaDoorLx2
namespace Go.LW
set_option linter.unusedSimpArgs false
set_option linter.unusedVariables false
set_option linter.unusedSectionVars false
open Go Go.RowKit

section step
variable {P : Program} {n : Nat} {K : Pend → Env → World → Prop} {l : List It} {O O' : Pend} {e : Env} {w : World} {i ty : Nat} {d : Tmp} {pos : String} {aft : Array Edge} {gd g : Option (Nat × Bool)}
variable {B : Nat} {w0 : World} {L L' : List Rg}

theorem run_isAgg {t : TypeId} {m : Nat} (ht : aggT P t m = true) (w : World) : (isAgg t).run P w = .ok true w := by
  obtain ⟨dsc, hu, hr, _⟩ := aggT_spec ht
  unfold isAgg
  rw [Sem.run_bind, run_underlying hu w]
  cases dsc <;> first | rfl | cases hr
theorem run_isAggN {t : TypeId} (ht : scalarT P t = true) (w : World) : (isAgg t).run P w = .ok false w := by
  unfold scalarT at ht
  unfold isAgg
  cases hu : P.underlying t with
  | none => rw [hu] at ht; cases ht
  | some dd =>
    rw [Sem.run_bind, run_underlying hu w]
    rw [hu] at ht
    cases dd <;> first | rfl | cases ht
theorem aggT_sz {t : TypeId} {m : Nat} (ht : aggT P t m = true) : szT P t m = true := by
  unfold aggT at ht; unfold szT
  simp only [Bool.and_eq_true] at ht; exact ht.2
theorem extract_mid (A C D : List Value) : (A ++ C ++ D).toArray.extract A.length (A.length + C.length) = C.toArray := by
  apply Array.ext'
  rw [List.append_assoc]
  simp
theorem run_partA {t : TypeId} {m : Nat} (ht : aggT P t m = true) {cs A C D : List Value} (hc : cs = A ++ C ++ D) (hm : C.length = m) (w : World) : (part t cs.toArray A.length).run P w = .ok (.agg C.toArray) w := by
  subst hc
  unfold part
  rw [Sem.run_bind, run_isAgg ht w]
  simp only [Result.andThen, if_true]
  rw [Sem.run_bind, szT_spec (aggT_sz ht) w]
  simp only [Result.andThen, Sem.run_pure]
  rw [← hm, extract_mid]
theorem range_split (a b c : Nat) (f : Nat → Value) : (List.range (a + b + c)).map f = (List.range a).map f ++ (List.range b).map (fun q => f (a + q)) ++ (List.range c).map (fun q => f (a + b + q)) := by
  rw [List.range_add, List.range_add, List.map_append, List.map_append, List.map_map, List.map_map]; rfl
/-- an element of many cells of an array that is a value -/
theorem Plan.indexAA {x y : Operand} {t : TypeId} {len m j sz : Nat} {f : Nat → Value} {k : IntKind} {el : TypeId} (hu : P.underlying t = some (.array len el)) (hs : aggT P el sz = true) (hg : wantedE n e g = true)
    (hx : ev n e x = AG [(m, f)]) (hy : ev n e y = .int k (j : Int)) (hj : j < len) (hm : len * sz ≤ m) (h : Plan P n K l O (upd e d (AG [(sz, fun q => f (j * sz + q))])) w) : Plan P n K (⟨i, true, ⟨some d, .index t x y, ty, pos, aft, gd⟩, g⟩ :: l) O e w :=
  Plan.val hg (fun w => run_v (by
    rw [hx, hy]
    have hc : (0 : Int) ≤ (j : Int) ∧ (j : Int) < (len : Int) := by omega
    have h1 : j * sz + sz ≤ m := Nat.le_trans (by rw [← Nat.succ_mul]; exact Nat.mul_le_mul_right _ hj) hm
    have hp := run_partA hs (cs := catL [(m, f)]) (A := (List.range (j * sz)).map f) (C := (List.range sz).map fun q => f (j * sz + q)) (D := (List.range (m - (j * sz + sz))).map fun q => f (j * sz + sz + q)) (by
      rw [catL_one, ← range_split]; congr 2; omega) (by simp) w
    simp only [List.length_map, List.length_range] at hp
    simp only [AG, Instr.index, asIntOf, Sem.run_bind, Sem.run_pure, Result.andThen, run_underlying hu w, if_pos hc, szT_spec (aggT_sz hs), Int.toNat_natCast]
    rw [hp, catL_one])) h

/-! fields of values -/
def fieldAtB (P : Program) (t : TypeId) (f off : Nat) (ft : TypeId) : Bool := match P.underlying t with
  | some (.struct fs) => match fs[f]? with
    | some fd => fd.offset == off && fd.type == ft
    | none => false
  | _ => false
theorem sum_catL (ps : List (Nat × (Nat → Value))) : (catL ps).length = (ps.map (·.1)).sum := catL_length ps
theorem catL_app (A C : List (Nat × (Nat → Value))) : catL (A ++ C) = catL A ++ catL C := by unfold catL; rw [List.flatMap_append]
theorem run_field {t ft : TypeId} {f off : Nat} (hf : fieldAtB P t f off ft = true) {cs : Array Value} {v : Value} {w : World} (h : (part ft cs off).run P w = .ok v w) : (Instr.field t (.agg cs) f).run P w = .ok v w := by
  unfold fieldAtB at hf
  cases hu : P.underlying t with
  | none => rw [hu] at hf; cases hf
  | some dd =>
    rw [hu] at hf
    cases dd <;> try (cases hf; done)
    rename_i fs
    simp only at hf
    cases hfd : fs[f]? with
    | none => rw [hfd] at hf; cases hf
    | some fd =>
      rw [hfd] at hf
      simp only [Bool.and_eq_true, beq_iff_eq] at hf
      obtain ⟨h1, h2⟩ := hf
      unfold Instr.field
      rw [Sem.run_bind, run_underlying hu w]
      simp only [Result.andThen, hfd]
      rw [Sem.run_bind]
      show Result.andThen (.ok cs w) _ = _
      simp only [Result.andThen]
      rw [h1, h2]; exact h
theorem Plan.fieldA {t ft : TypeId} {x : Operand} {f off : Nat} {ps1 ps2 ps3 : List (Nat × (Nat → Value))} (hf : fieldAtB P t f off ft = true) (hs : aggT P ft (ps2.map (·.1)).sum = true) (hg : wantedE n e g = true) (hx : ev n e x = AG (ps1 ++ ps2 ++ ps3)) (ho : (ps1.map (·.1)).sum = off)
    (h : Plan P n K l O (upd e d (AG ps2)) w) : Plan P n K (⟨i, true, ⟨some d, .field t x f, ty, pos, aft, gd⟩, g⟩ :: l) O e w :=
  Plan.val hg (fun w => run_v (by
    rw [hx]
    refine run_field hf ?_
    rw [catL_app, catL_app, ← ho, ← catL_length]
    exact run_partA hs rfl (catL_length _) w)) h
theorem Plan.fieldS {t ft : TypeId} {x : Operand} {f off : Nat} {ps1 ps3 : List (Nat × (Nat → Value))} {F : Nat → Value} {v : Value} (hf : fieldAtB P t f off ft = true) (hs : scalarT P ft = true) (hg : wantedE n e g = true) (hx : ev n e x = AG (ps1 ++ [(1, F)] ++ ps3)) (ho : (ps1.map (·.1)).sum = off) (hv : F 0 = v)
    (h : Plan P n K l O (upd e d v) w) : Plan P n K (⟨i, true, ⟨some d, .field t x f, ty, pos, aft, gd⟩, g⟩ :: l) O e w :=
  Plan.val hg (fun w => run_v (by
    rw [hx]
    refine run_field hf ?_
    unfold part
    rw [Sem.run_bind, run_isAggN hs w]
    have : (catL (ps1 ++ [(1, F)] ++ ps3)).toArray[off]? = some v := by
      rw [catL_app, catL_app, ← ho, ← catL_length]
      simp [catL_one, hv]
    simp only [Result.andThen, Bool.false_eq_true, if_false, this, Sem.run_pure])) h

/-! slices of slices of bytes -/
def Bss (L : List Rg) (ix : Nat) (a : Option Addr) (len cc : Nat) (X : List (List Byte)) : Prop :=
  X.length = len ∧ len ≤ cc ∧ (0 < len → ∃ (offs ms js b : Nat) (A : Nat → Option Addr) (N C : Nat → Nat) (rw : Bool), L[ix]? = some ⟨some b, offs, ms, fun q => .slice (A q) (N q) (C q), rw⟩ ∧ a = some ⟨b, offs + js, none⟩ ∧ js + len ≤ ms ∧ ∀ q, q < len → ∃ iy, Bx L iy (A (js + q)) (N (js + q)) (C (js + q)) (X.getD q []))
theorem Bss.hl {L : List Rg} {ix : Nat} {a : Option Addr} {len cc : Nat} {X : List (List Byte)} (h : Bss L ix a len cc X) : X.length = len := h.1
theorem Bss.nil {L : List Rg} (ix : Nat) {a : Option Addr} {cc : Nat} : Bss L ix a 0 cc [] := ⟨rfl, Nat.zero_le _, fun h => absurd h (Nat.lt_irrefl 0)⟩
theorem Bss.app {L : List Rg} {ix : Nat} {a : Option Addr} {len cc : Nat} {X : List (List Byte)} (h : Bss L ix a len cc X) (D : List Rg) : Bss (D ++ L) (ix + D.length) a len cc X := by
  obtain ⟨hl, hc, h⟩ := h
  refine ⟨hl, hc, fun hn => ?_⟩
  obtain ⟨offs, ms, js, b, A, N, C, rw, h1, h2, h3, h4⟩ := h hn
  refine ⟨offs, ms, js, b, A, N, C, rw, ?_, h2, h3, fun q hq => ?_⟩
  · rw [List.getElem?_append_right (by omega), Nat.add_sub_cancel]; exact h1
  · obtain ⟨iy, hy⟩ := h4 q hq; exact ⟨_, hy.app D⟩
theorem Bss.of {L : List Rg} (k : Nat) {b m : Nat} {A : Nat → Option Addr} {N C : Nat → Nat} {rw : Bool} {X : List (List Byte)} (h : L[k]? = some ⟨some b, 0, m, fun q => .slice (A q) (N q) (C q), rw⟩) (hl : X.length = m) (hx : ∀ q, q < m → ∃ iy, Bx L iy (A q) (N q) (C q) (X.getD q [])) : Bss L k (some ⟨b, 0, none⟩) m m X :=
  ⟨hl, Nat.le_refl _, fun _ => ⟨0, m, 0, b, A, N, C, rw, h, rfl, by omega, fun q hq => by rw [Nat.zero_add]; exact hx q hq⟩⟩
theorem Plan.idxBss {t : TypeId} {x y : Operand} {k : IntKind} {ix len cc j : Nat} {a : Option Addr} {X : List (List Byte)} (hX : Bss L ix a len cc X) (ha : slB P t 1 = true) (hg : wantedE n e g = true) (hx : ev n e x = .slice a len cc) (hy : ev n e y = .int k (j : Int)) (hj : j < len)
    (h : Plan P n K l O (upd e d (.pointer (a.map fun z => ⟨z.block, z.off + j, none⟩))) w) : Plan P n K (⟨i, true, ⟨some d, .indexAddr t x y, ty, pos, aft, gd⟩, g⟩ :: l) O e w := by
  obtain ⟨hl, hc, hX⟩ := hX
  obtain ⟨offs, ms, js, b, A, N, C, rw, h1, h2, h3⟩ := hX (by omega)
  subst h2
  exact Plan.idxSl1 ha hg hx hy hj h
theorem Plan.loadBss {D : List Rg} (hst : St B w0 (D ++ L) w) {t : TypeId} {x : Operand} {ix len cc j : Nat} {a : Option Addr} {X : List (List Byte)} (hX : Bss L ix a len cc X) (hg : wantedE n e g = true) (hx : ev n e x = .pointer (a.map fun z => ⟨z.block, z.off + j, none⟩)) (hj : j < len) (ht : scalarT P t = true)
    (h : ∀ r iy a' c', (D ++ L)[ix + D.length]? = some r → Bx L iy a' (X.getD j []).length c' (X.getD j []) → Plan P n K l ((i, r.at) :: O) (upd e d (.slice a' (X.getD j []).length c')) w) : Plan P n K (⟨i, true, ⟨some d, .load t x, ty, pos, aft, gd⟩, g⟩ :: l) O e w := by
  obtain ⟨hl, hc, hX⟩ := hX
  obtain ⟨offs, ms, js, b, A, N, C, rw, h1, h2, h3, h4⟩ := hX (by omega)
  subst h2
  obtain ⟨iy, hy⟩ := h4 j hj
  have hx' : ev n e x = .pointer (some ⟨b, offs + (js + j), none⟩) := by rw [hx, ← Nat.add_assoc]; rfl
  have h1' : (D ++ L)[ix + D.length]? = some ⟨some b, offs, ms, fun q => .slice (A q) (N q) (C q), rw⟩ := by rw [List.getElem?_append_right (by omega), Nat.add_sub_cancel]; exact h1
  refine Plan.load1 hst _ hg hx' h1' (by omega) ht ?_
  have hl2 := hy.hl
  have := h _ iy (A (js + j)) (C (js + j)) h1' (by rw [← hl2] at hy; exact hy)
  rw [hl2] at this
  exact this
/-! a struct's literal, part by part -/
theorem writeL_mid (Y : List Value) : ∀ (A Z C : List Value), Y.length = Z.length → writeL (A ++ Z ++ C) A.length Y = A ++ Y ++ C := by
  induction Y with
  | nil => intro A Z C h; obtain rfl := List.length_eq_zero_iff.1 h.symm; rfl
  | cons y Y ih =>
    intro A Z C h
    cases Z with
    | nil => simp at h
    | cons z Z =>
      have h1 : (A ++ z :: Z ++ C).set A.length y = (A ++ [y]) ++ Z ++ C := by simp
      show writeL ((A ++ z :: Z ++ C).set A.length y) (A.length + 1) Y = _
      rw [h1]
      have h2 := ih (A ++ [y]) Z C (by simpa using h)
      rw [List.length_append] at h2
      rw [show A.length + 1 = A.length + [y].length from rfl, h2]
      simp
abbrev PS := List (Nat × (Nat → Value))
inductive FillP (pl : List (Nat × Nat)) : PS → List (Nat × Value) → PS → Prop
  | nil {z : PS} : FillP pl z [] z
  | agg {i : Nat} {r : List (Nat × Value)} {ps : PS} (A Z C Y : PS) (h : pl[i]? = some ((A.map (·.1)).sum, (Z.map (·.1)).sum)) (hs : (Y.map (·.1)).sum = (Z.map (·.1)).sum) (t : FillP pl (A ++ Y ++ C) r ps) : FillP pl (A ++ Z ++ C) ((i, AG Y) :: r) ps
  | one {i : Nat} {r : List (Nat × Value)} {ps : PS} {v : Value} (A C : PS) (F : Nat → Value) (h : pl[i]? = some ((A.map (·.1)).sum, 1)) (hv : cellsL v = [v]) (t : FillP pl (A ++ [(1, fun _ => v)] ++ C) r ps) : FillP pl (A ++ [(1, F)] ++ C) ((i, v) :: r) ps
theorem fillStep {place : Nat → Option (Nat × Nat)} {A Z C Y : List Value} {i : Nat} {v : Value} {r : List (Nat × Value)} (h : place i = some (A.length, Z.length)) (hs : Y.length = Z.length) (hv : cellsL v = Y) : fillL place (A ++ Z ++ C) ((i, v) :: r) = fillL place (A ++ Y ++ C) r := by
  simp only [fillL, h, hv]
  have h1 : (Nat.beq Y.length Z.length && Nat.ble (A.length + Z.length) (A ++ Z ++ C).length) = true := by
    simp only [Bool.and_eq_true, Nat.beq_eq, Nat.ble_eq, List.length_append]; omega
  rw [h1, writeL_mid Y A Z C hs]; rfl
theorem FillP.fill {pl : List (Nat × Nat)} {z ps : PS} {vs : List (Nat × Value)} (h : FillP pl z vs ps) : fillL (fun i => pl[i]?) (catL z) vs = some (catL ps) := by
  induction h with
  | nil => rfl
  | agg A Z C Y h hs t ih =>
    rw [catL_app, catL_app] at ih ⊢
    rw [fillStep (Y := catL Y) (by rw [h, catL_length, catL_length]) (by rw [catL_length, catL_length, hs]) rfl]
    exact ih
  | @one i r ps v A C F h hv t ih =>
    rw [catL_app, catL_app] at ih ⊢
    rw [fillStep (A := catL A) (Z := catL [(1, F)]) (C := catL C) (Y := catL [(1, fun _ => v)]) (place := fun i => pl[i]?) (by simp only [h, catL_length]; rfl) rfl (by rw [hv]; rfl)]
    exact ih
theorem Plan.buildP {t : TypeId} {parts : Array (Nat × Operand)} {pl : List (Nat × Nat)} {zps ps : List (Nat × (Nat → Value))} {vs : List (Nat × Value)} (ha : placesB P t pl = true) (hpl : pl.all (fun q => q.2 < 1000000) = true) (hz : zeroIs P t zps) (hg : wantedE n e g = true)
    (hv : parts.toList.map (fun p => (p.1, ev n e p.2)) = vs) (hf' : FillP pl zps vs ps)
    (h : Plan P n K l O (upd e d (AG ps)) w) : Plan P n K (⟨i, true, ⟨some d, .build t parts, ty, pos, aft, gd⟩, g⟩ :: l) O e w := Plan.buildStr ha hpl hz hg hv hf'.fill h

/-! a view that is the same in another list of ranges -/
theorem Bx.unapp {L D : List Rg} {i : Nat} {a : Option Addr} {len cc : Nat} {X : List Byte} (h : Bx (D ++ L) (i + D.length) a len cc X) : Bx L i a len cc X := by
  obtain ⟨hl, hc, h⟩ := h
  refine ⟨hl, hc, fun hn => ?_⟩
  obtain ⟨offs, ms, js, os, ps, G, rw, h1, h2⟩ := h hn
  rw [List.getElem?_append_right (by omega), Nat.add_sub_cancel] at h1
  exact ⟨offs, ms, js, os, ps, G, rw, h1, h2⟩
theorem Bx.move {L L' : List Rg} {i j : Nat} {r : Rg} {a : Option Addr} {len cc : Nat} {X : List Byte} (h : Bx L i a len cc X) (hi : L[i]? = some r) (hj : L'[j]? = some r) : Bx L' j a len cc X := by
  obtain ⟨hl, hc, h⟩ := h
  refine ⟨hl, hc, fun hn => ?_⟩
  obtain ⟨offs, ms, js, os, ps, G, rw, h1, h2⟩ := h hn
  rw [hi] at h1
  exact ⟨offs, ms, js, os, ps, G, rw, hj.trans h1, h2⟩
theorem Plan.minI {at' : Array TypeId} {x y : Operand} {a b : Int} (hg : wantedE n e g = true) (hx : ev n e x = .int .i64 a) (hy : ev n e y = .int .i64 b) (h : Plan P n K l O (upd e d (.int .i64 (min a b))) w) :
    Plan P n K (⟨i, true, ⟨some d, .call ⟨.builtin .min, #[x, y], at'⟩, ty, pos, aft, gd⟩, g⟩ :: l) O e w :=
  Plan.val hg (fun w => run_blt2s (P := P) fun cs => by
    rw [hx, hy]
    simp only [builtin, Sem.run_bind, Builtin.min_, List.foldlM_cons, List.foldlM_nil, Builtin.min2, Sem.run_pure, Result.andThen_ok]
    have e1 : (if (b < a) then b else a) = min a b := by split <;> omega
    simp [e1]) h
theorem Plan.idxVS (hst : St B w0 L w) {t : TypeId} {x y : Operand} {k : IntKind} {ix len cc j : Nat} {a : Option Addr} {X : List Byte} (hX : Bx L ix a len cc X) (ha : slB P t 1 = true) (hg : wantedE n e g = true) (hx : ev n e x = .slice a len cc) (hy : ev n e y = .int k (j : Int)) (hj : j < len)
    (h : Plan P n K l O (upd e d (.pointer (a.map fun z => ⟨z.block, z.off + j, none⟩))) w) : Plan P n K (⟨i, true, ⟨some d, .indexAddr t x y, ty, pos, aft, gd⟩, g⟩ :: l) O e w := Plan.idxV hX ha hg hx hy hj h
theorem Plan.sl2arrVS (hst : St B w0 L w) {t : TypeId} {x : Operand} {ix m len cap : Nat} {a : Option Addr} {X : List Byte} {el : TypeId} (hX : Bx L ix a len cap X) (hu : P.underlying t = some (.array m el)) (hg : wantedE n e g = true) (hx : ev n e x = .slice a len cap) (hm : 0 < m ∧ m ≤ len)
    (h : Plan P n K l O (upd e d (.pointer a)) w) : Plan P n K (⟨i, true, ⟨some d, .sliceToArrayPointer t x, ty, pos, aft, gd⟩, g⟩ :: l) O e w := Plan.sl2arrV hX hu hg hx hm h
theorem Plan.maxI {at' : Array TypeId} {x y : Operand} {a b : Int} (hg : wantedE n e g = true) (hx : ev n e x = .int .i64 a) (hy : ev n e y = .int .i64 b) (h : Plan P n K l O (upd e d (.int .i64 (max a b))) w) :
    Plan P n K (⟨i, true, ⟨some d, .call ⟨.builtin .max, #[x, y], at'⟩, ty, pos, aft, gd⟩, g⟩ :: l) O e w :=
  Plan.val hg (fun w => run_blt2s (P := P) fun cs => by
    rw [hx, hy]
    simp only [builtin, Sem.run_bind, Builtin.max_, List.foldlM_cons, List.foldlM_nil, Builtin.max2, Sem.run_pure, Result.andThen_ok]
    have e1 : (if (b > a) then b else a) = max a b := by split <;> omega
    simp [e1]) h
theorem Plan.maxN {at' : Array TypeId} {x y : Operand} {a b : Nat} (hg : wantedE n e g = true) (hx : ev n e x = VN a) (hy : ev n e y = VN b) (h : Plan P n K l O (upd e d (VN (max a b))) w) :
    Plan P n K (⟨i, true, ⟨some d, .call ⟨.builtin .max, #[x, y], at'⟩, ty, pos, aft, gd⟩, g⟩ :: l) O e w :=
  Plan.maxI hg hx hy (by
    have : max (a : Int) (b : Int) = ((max a b : Nat) : Int) := by omega
    rw [this]; exact h)
/-- the lowest bits of an int -/
theorem Plan.maskI {t yt : TypeId} {x y : Operand} {a : Int} (k : Nat) (hk : k < 63) (hg : wantedE n e g = true) (hx : ev n e x = .int .i64 a) (hy : ev n e y = .int .i64 ((2 ^ k - 1 : Nat) : Int))
    (h : Plan P n K l O (upd e d (.int .i64 (a % ((2 ^ k : Nat) : Int)))) w) : Plan P n K (⟨i, true, ⟨some d, .binOp .and t x y yt, ty, pos, aft, gd⟩, g⟩ :: l) O e w :=
  Plan.val hg (fun w => run_bin hx hy (by
    have hp : (2 : Nat) ^ k ≤ 2 ^ 62 := Nat.pow_le_pow_right (by omega) (by omega)
    have hp0 : 0 < (2 : Nat) ^ k := Nat.pow_pos (by omega)
    simp only [binOp, ne_eq, not_true_eq_false, if_false, Op.intBits, BitVec.ofInt_natCast]
    have e1 : (BitVec.ofNat 64 (2 ^ k - 1)).toNat = 2 ^ k - 1 := by simp only [BitVec.toNat_ofNat]; omega
    have e2 : ((BitVec.ofInt 64 a &&& BitVec.ofNat 64 (2 ^ k - 1)).toNat : Int) = a % ((2 ^ k : Nat) : Int) := by
      rw [BitVec.toNat_and, e1, Nat.and_two_pow_sub_one_eq_mod, BitVec.toNat_ofInt]
      have h0 : 0 ≤ a % ((2 ^ 64 : Nat) : Int) := Int.emod_nonneg _ (by decide)
      rw [Int.natCast_emod, Int.toNat_of_nonneg h0]
      refine Int.emod_emod_of_dvd a ?_
      have : (2 ^ k : Nat) ∣ 2 ^ 64 := Nat.pow_dvd_pow 2 (by omega)
      exact Int.natCast_dvd_natCast.2 this
    show (Sem.pure (Value.int .i64 (IntKind.i64.wrap ((BitVec.ofInt 64 a &&& BitVec.ofNat 64 (2 ^ k - 1)).toNat : Int)))).run P w = _
    rw [e2, wrap_i64_in _ (by
      have h1 := Int.emod_nonneg a (show ((2 ^ k : Nat) : Int) ≠ 0 by omega)
      have h2 := Int.emod_lt_of_pos a (show (0 : Int) < ((2 ^ k : Nat) : Int) by omega)
      omega)]
    rfl)) h
end step
end Go.LW
