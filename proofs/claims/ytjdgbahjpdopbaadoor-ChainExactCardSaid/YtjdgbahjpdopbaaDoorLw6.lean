/-
  ENGINE, PART 6 (own work): frames by slots (for loops), results by shape, lengths, further steps.
-/
import Derived.Test.YtjdgbahjpdopbaaDoorLw5
namespace Go.LW
set_option linter.unusedSimpArgs false
set_option linter.unusedVariables false
set_option linter.unusedSectionVars false
open Go Go.RowKit

def ups (e : Env) : List (Nat × Value) → Env
  | [] => e
  | (s, v) :: r => upd (ups e r) s v
inductive EnvHas (e : Env) : List (Nat × Value) → Prop
  | nil : EnvHas e []
  | cons {s : Nat} {v : Value} {r : List (Nat × Value)} (h : e s = v) (t : EnvHas e r) : EnvHas e ((s, v) :: r)
theorem EnvHas.open {e : Env} {r : List (Nat × Value)} (h : EnvHas e r) : ∃ e', e = ups e' r := by
  refine ⟨e, ?_⟩
  induction h with
  | nil => rfl
  | @cons s v r h t ih =>
    funext i
    show e i = upd (ups e r) s v i
    rw [upd_at, ← ih]
    split
    · rename_i hi; rw [hi]; exact h
    · rfl

section res
variable {P : Program} {n : Nat} {e : Env} {w : World} {rs : List ResultVar} {vs : List Value} {t : Tmp}
theorem Res.tmp_int {k : IntKind} {a : Int} (h : ev n e (.tmp t) = .int k a) (r : Res P n e w rs vs) : Res P n e w (.tmp t :: rs) (.int k a :: vs) := .tmp h r
theorem Res.tmp_bool {b : Bool} (h : ev n e (.tmp t) = .bool b) (r : Res P n e w rs vs) : Res P n e w (.tmp t :: rs) (.bool b :: vs) := .tmp h r
theorem Res.tmp_ptr {a : Option Addr} (h : ev n e (.tmp t) = .pointer a) (r : Res P n e w rs vs) : Res P n e w (.tmp t :: rs) (.pointer a :: vs) := .tmp h r
theorem Res.tmp_slice {p : Option Addr} {a c : Nat} (h : ev n e (.tmp t) = .slice p a c) (r : Res P n e w rs vs) : Res P n e w (.tmp t :: rs) (.slice p a c :: vs) := .tmp h r
theorem Res.tmp_string {s : ByteArray} (h : ev n e (.tmp t) = .string s) (r : Res P n e w rs vs) : Res P n e w (.tmp t :: rs) (.string s :: vs) := .tmp h r
theorem Res.tmp_agg {s : Array Value} (h : ev n e (.tmp t) = .agg s) (r : Res P n e w rs vs) : Res P n e w (.tmp t :: rs) (.agg s :: vs) := .tmp h r
theorem Res.tmp_map {s : Option Nat} (h : ev n e (.tmp t) = .map s) (r : Res P n e w rs vs) : Res P n e w (.tmp t :: rs) (.map s :: vs) := .tmp h r
/-- a result of one cell that lies in memory -/
theorem Res.one {B : Nat} {w0 : World} {L : List Rg} (hst : St B w0 L w) {p : Tmp} {t : TypeId} {b o m : Nat} {f : Nat → Value} {rw : Bool} (h : ev n e (.tmp p) = .pointer (some ⟨b, o, none⟩)) (k : Nat) (hL : L[k]? = some ⟨some b, o, m, f, rw⟩) (hj : 0 < m) (ht : scalarT P t = true)
    (r : Res P n e w rs vs) : Res P n e w (.cell p t :: rs) (f 0 :: vs) :=
  .cell h (by
    obtain ⟨b', hp, hc⟩ := hst.mem hL 0 hj
    obtain rfl : b = b' := Option.some.inj hp
    exact run_loadAt_scalar ht hc) r
end res

theorem St.tl {B : Nat} {w0 w : World} {L : List Rg} {r : Rg} (h : St B w0 (r :: L) w) : St B w0 L w := h.sub (List.sublist_cons_self r L)

section step
variable {P : Program} {n : Nat} {K : Pend → Env → World → Prop} {l : List It} {O : Pend} {e : Env} {w : World} {i ty : Nat} {d : Tmp} {pos : String} {aft : Array Edge} {gd g : Option (Nat × Bool)}

theorem Plan.extract_int {x : Operand} {k : Nat} {vs : Array Value} {kd : IntKind} {a : Int} (hg : wantedE n e g = true) (hx : ev n e x = .tuple vs) (hv : vs[k]? = some (.int kd a)) (h : Plan P n K l O (upd e d (.int kd a)) w) :
    Plan P n K (⟨i, true, ⟨some d, .extract x k, ty, pos, aft, gd⟩, g⟩ :: l) O e w := Plan.extract hg hx hv h
theorem Plan.extract_bool {x : Operand} {k : Nat} {vs : Array Value} {b : Bool} (hg : wantedE n e g = true) (hx : ev n e x = .tuple vs) (hv : vs[k]? = some (.bool b)) (h : Plan P n K l O (upd e d (.bool b)) w) :
    Plan P n K (⟨i, true, ⟨some d, .extract x k, ty, pos, aft, gd⟩, g⟩ :: l) O e w := Plan.extract hg hx hv h
theorem Plan.extract_ptr {x : Operand} {k : Nat} {vs : Array Value} {a : Option Addr} (hg : wantedE n e g = true) (hx : ev n e x = .tuple vs) (hv : vs[k]? = some (.pointer a)) (h : Plan P n K l O (upd e d (.pointer a)) w) :
    Plan P n K (⟨i, true, ⟨some d, .extract x k, ty, pos, aft, gd⟩, g⟩ :: l) O e w := Plan.extract hg hx hv h
theorem Plan.extract_slice {x : Operand} {k : Nat} {vs : Array Value} {p : Option Addr} {a c : Nat} (hg : wantedE n e g = true) (hx : ev n e x = .tuple vs) (hv : vs[k]? = some (.slice p a c)) (h : Plan P n K l O (upd e d (.slice p a c)) w) :
    Plan P n K (⟨i, true, ⟨some d, .extract x k, ty, pos, aft, gd⟩, g⟩ :: l) O e w := Plan.extract hg hx hv h
theorem Plan.extract_agg {x : Operand} {k : Nat} {vs : Array Value} {s : Array Value} (hg : wantedE n e g = true) (hx : ev n e x = .tuple vs) (hv : vs[k]? = some (.agg s)) (h : Plan P n K l O (upd e d (.agg s)) w) :
    Plan P n K (⟨i, true, ⟨some d, .extract x k, ty, pos, aft, gd⟩, g⟩ :: l) O e w := Plan.extract hg hx hv h

/-- a whole array that is one range -/
theorem Plan.loadA1 {B : Nat} {w0 : World} {L : List Rg} (hst : St B w0 L w) {t : TypeId} {x : Operand} {b o m : Nat} {f : Nat → Value} {rw : Bool} (k : Nat) (hg : wantedE n e g = true) (hx : ev n e x = .pointer (some ⟨b, o, none⟩)) (hL : L[k]? = some ⟨some b, o, m, f, rw⟩)
    (ht : aggT P t m = true) (h : Plan P n K l ((i, (Rg.mk (some b) o m f rw).at) :: O) (upd e d (AG [(m, f)])) w) :
    Plan P n K (⟨i, true, ⟨some d, .load t x, ty, pos, aft, gd⟩, g⟩ :: l) O e w :=
  Plan.held _ hg (hst.mem hL) (fun w hw => run_v (by
    rw [hx]
    refine (run_loadAt_range (f := f) ht fun q hq => ?_).trans ?_
    · obtain ⟨b', hp, hc⟩ := hw q hq
      obtain rfl : b = b' := Option.some.inj hp
      exact hc
    · simp [AG, catL])) h

theorem run_blt {b : Builtin} {x : Operand} {ρ : Operand → Value} {t ty : TypeId} {v : Value} {dst : Option Tmp} {w : World}
    (h : ∀ cs, (builtin b #[t] ty cs #[ρ x]).run P w = .ok (.value v) w) : (execOp ρ ⟨dst, .call ⟨.builtin b, #[x], #[t]⟩, ty, pos, aft, gd⟩).run P w = .ok (.value v) w := by
  have e1 : Array.map ρ #[x] = #[ρ x] := by simp
  simp only [execOp, resolve, Sem.run_bind, Sem.run_pure, Result.andThen, invoke, e1]
  exact h _
theorem Plan.len {x : Operand} {t : TypeId} {p : Option Addr} {a c : Nat} (ht : ∃ el, P.underlying t = some (.slice el)) (hg : wantedE n e g = true) (hx : ev n e x = .slice p a c)
    (h : Plan P n K l O (upd e d (VN a)) w) : Plan P n K (⟨i, true, ⟨some d, .call ⟨.builtin .len, #[x], #[t]⟩, ty, pos, aft, gd⟩, g⟩ :: l) O e w :=
  Plan.val hg (fun w => run_blt (fun cs => by
    obtain ⟨el, hu⟩ := ht
    rw [hx]
    simp only [builtin, Sem.run_bind]
    have : (Builtin.len_ #[t] ty #[.slice p a c]).run P w = .ok (goInt a) w := by simp [Builtin.len_, run_underlying hu]
    rw [this]; rfl)) h
/-! values of arrays and structs, built and looked into -/
theorem catL_one_get (m : Nat) (f : Nat → Value) (j : Nat) (hj : j < m) : (catL [(m, f)]).toArray[j]? = some (f j) := by
  simp [catL, hj]
/-- an element (of one cell) of an array that is a value -/
theorem Plan.indexA {x y : Operand} {t : TypeId} {len m j : Nat} {f : Nat → Value} {k : IntKind} {el : TypeId} (hu : P.underlying t = some (.array len el)) (hs : szT P el 1 = true) (hsc : scalarT P el = true) (hg : wantedE n e g = true)
    (hx : ev n e x = AG [(m, f)]) (hy : ev n e y = .int k (j : Int)) (hj : j < len) (hm : len ≤ m) (h : Plan P n K l O (upd e d (f j)) w) : Plan P n K (⟨i, true, ⟨some d, .index t x y, ty, pos, aft, gd⟩, g⟩ :: l) O e w :=
  Plan.val hg (fun w => run_v (by
    rw [hx, hy]
    have hc : (0 : Int) ≤ (j : Int) ∧ (j : Int) < (len : Int) := by omega
    have hagg : (isAgg el).run P w = .ok false w := by
      unfold scalarT at hsc
      unfold isAgg
      cases hu : P.underlying el with
      | none => rw [hu] at hsc; cases hsc
      | some dd =>
        rw [Sem.run_bind, run_underlying hu w]
        rw [hu] at hsc
        cases dd <;> first | rfl | cases hsc
    simp only [AG, Instr.index, asIntOf, Sem.run_bind, Sem.run_pure, Result.andThen, run_underlying hu w, if_pos hc, szT_spec hs, Int.toNat_natCast, part, hagg, Nat.mul_one, catL_one_get m f j (by omega), Bool.false_eq_true, if_false])) h

def writeL : List Value → Nat → List Value → List Value
  | cs, _, [] => cs
  | cs, o, v :: r => writeL (cs.set o v) (o + 1) r
def cellsL : Value → List Value
  | .agg cs => cs.toList
  | v => [v]
def fillL (place : Nat → Option (Nat × Nat)) : List Value → List (Nat × Value) → Option (List Value)
  | cs, [] => some cs
  | cs, (i, v) :: r => match place i with
    | none => none
    | some (o, sz) => cond (Nat.beq (cellsL v).length sz && Nat.ble (o + sz) cs.length) (fillL place (writeL cs o (cellsL v)) r) none
theorem cellsL_eq (v : Value) : v.cells = (cellsL v).toArray := by cases v <;> simp [Value.cells, cellsL]
theorem writeL_fold (vs : List Value) : ∀ (cs : List Value) (o k : Nat), (vs.zipIdx k).foldl (fun (a : Array Value) (p : Value × Nat) => a.setIfInBounds (o + p.2) p.1) cs.toArray = (writeL cs (o + k) vs).toArray := by
  induction vs with
  | nil => intro cs o k; rfl
  | cons v vs ih =>
    intro cs o k
    rw [List.zipIdx_cons, List.foldl_cons]
    simp only [List.setIfInBounds_toArray]
    rw [ih]
    simp only [writeL]
    rw [Nat.add_assoc]
theorem fillL_spec {place : Nat → Option (Nat × Nat)} : ∀ (vs : List (Nat × Value)) (cs rs : List Value), fillL place cs vs = some rs → Instr.fill place cs.toArray vs = some rs.toArray
  | [], cs, rs, h => by
    simp only [fillL, Option.some.injEq] at h
    subst h; rfl
  | (i, v) :: r, cs, rs, h => by
    unfold fillL at h
    unfold Instr.fill
    cases hp : place i with
    | none => rw [hp] at h; cases h
    | some osz =>
      obtain ⟨o, sz⟩ := osz
      rw [hp] at h
      simp only at h ⊢
      cases hc : (Nat.beq (cellsL v).length sz && Nat.ble (o + sz) cs.length) with
      | false => rw [hc] at h; cases h
      | true =>
        rw [hc] at h
        simp only [Bool.and_eq_true] at hc
        have h1 := Nat.eq_of_beq_eq_true hc.1
        have h2 := Nat.le_of_ble_eq_true hc.2
        rw [cellsL_eq]
        have h3 : ¬ ((cellsL v).toArray.size ≠ sz ∨ o + (cellsL v).toArray.size > cs.toArray.size) := by
          simp only [List.size_toArray]; omega
        rw [if_neg (by simpa using h3)]
        have h4 : ((cellsL v).toArray.zipIdx.foldl (fun (cs : Array Value) (p : Value × Nat) => cs.setIfInBounds (o + p.2) p.1) cs.toArray) = (writeL cs o (cellsL v)).toArray := by
          have := writeL_fold (cellsL v) cs o 0
          simpa using this
        exact (congrArg (fun a => Instr.fill place a r) h4).trans (fillL_spec r _ rs h)

theorem Plan.buildArr {t : TypeId} {parts : Array (Nat × Operand)} {len sz : Nat} {zps ps : List (Nat × (Nat → Value))} {vs : List (Nat × Value)} (ha : arrB P t len sz = true) (hz : zeroIs P t zps) (hg : wantedE n e g = true)
    (hv : parts.toList.map (fun p => (p.1, ev n e p.2)) = vs) (hf' : fillL (fun i => some (i * sz, sz)) (catL zps) vs = some (catL ps))
    (h : Plan P n K l O (upd e d (AG ps)) w) : Plan P n K (⟨i, true, ⟨some d, .build t parts, ty, pos, aft, gd⟩, g⟩ :: l) O e w :=
  Plan.val hg (fun w => run_v (by
    have hf := fillL_spec _ _ _ hf'
    obtain ⟨el, hu, hs⟩ := arrB_spec ha
    obtain ⟨z, hz1, hz2⟩ := hz
    have hmap : (parts.map fun (i, x) => (i, ev n e x)).toList = vs := by rw [← hv]; simp
    simp only [Instr.build, Sem.run_bind, run_zeroValue hz1, Result.andThen, run_underlying hu w, szT_spec hs, hz2, hmap, hf]
    rfl)) h

def placesB (P : Program) (t : TypeId) (pl : List (Nat × Nat)) : Bool := match P.underlying t with
  | some (.struct fs) => fs.toList.map (fun f => (f.offset, match P.info? f.type with | some i => i.size | none => 1000000007)) == pl
  | _ => false
theorem Plan.buildStr {t : TypeId} {parts : Array (Nat × Operand)} {pl : List (Nat × Nat)} {zps ps : List (Nat × (Nat → Value))} {vs : List (Nat × Value)} (ha : placesB P t pl = true) (hpl : pl.all (fun q => q.2 < 1000000) = true) (hz : zeroIs P t zps) (hg : wantedE n e g = true)
    (hv : parts.toList.map (fun p => (p.1, ev n e p.2)) = vs) (hf' : fillL (fun i => pl[i]?) (catL zps) vs = some (catL ps))
    (h : Plan P n K l O (upd e d (AG ps)) w) : Plan P n K (⟨i, true, ⟨some d, .build t parts, ty, pos, aft, gd⟩, g⟩ :: l) O e w :=
  Plan.val hg (fun w => run_v (by
    have hf := fillL_spec _ _ _ hf'
    obtain ⟨z, hz1, hz2⟩ := hz
    have hmap : (parts.map fun (i, x) => (i, ev n e x)).toList = vs := by rw [← hv]; simp
    unfold placesB at ha
    cases hu : P.underlying t with
    | none => rw [hu] at ha; cases ha
    | some dsc =>
      rw [hu] at ha
      cases dsc <;> try (cases ha; done)
      rename_i fs
      simp only [beq_iff_eq] at ha
      have key : (fs.mapM fun f => do pure (f.offset, ← sizeOf f.type) : Sem (Array (Nat × Nat))).run P w = Result.ok pl.toArray w := by
        rw [Array.mapM_eq_mapM_toList, Sem.run_map]
        have : ∀ (l : List Field) (pl : List (Nat × Nat)), l.map (fun f => (f.offset, match P.info? f.type with | some i => i.size | none => 1000000007)) = pl → pl.all (fun q => q.2 < 1000000) = true →
            (l.mapM fun f => do pure (f.offset, ← sizeOf f.type) : Sem (List (Nat × Nat))).run P w = Result.ok pl w := by
          intro l
          induction l with
          | nil => intro pl h _; subst h; rfl
          | cons f l ih =>
            intro pl h hall
            subst h
            simp only [List.map_cons, List.all_cons, Bool.and_eq_true, decide_eq_true_eq] at hall
            rw [List.mapM_cons]
            have hsz : (sizeOf f.type).run P w = .ok (match P.info? f.type with | some i => i.size | none => 1000000007) w := by
              cases hi : P.info? f.type with
              | none => rw [hi] at hall; simp at hall
              | some inf => simp [sizeOf, typeInfo, hi]
            simp only [Sem.run_bind, hsz, Result.andThen, Sem.run_pure, ih _ rfl hall.2, List.map_cons]
        rw [this fs.toList pl ha hpl]
        rfl
      simp only [Instr.build, Sem.run_bind, run_zeroValue hz1, Result.andThen, run_underlying hu w, key, hz2, hmap]
      have h2 : (fun x : Nat => pl.toArray[x]?) = fun i : Nat => pl[i]? := by funext i; simp
      rw [h2, hf]
      rfl)) h
end step
end Go.LW
