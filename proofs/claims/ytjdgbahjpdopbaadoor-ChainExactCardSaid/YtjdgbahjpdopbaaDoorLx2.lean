/-
  ENGINE X, PART 2 (own work): further steps: bits of ints, bools compared, slices of views, slices made, arrays out of views, views of views, calls of closures.
-/
import Derived.Test.YtjdgbahjpdopbaaDoorLx1
namespace Go.LW
set_option linter.unusedSimpArgs false
set_option linter.unusedVariables false
set_option linter.unusedSectionVars false
open Go Go.RowKit

section step
variable {P : Program} {n : Nat} {K : Pend → Env → World → Prop} {l : List It} {O O' : Pend} {e : Env} {w : World} {i ty : Nat} {d : Tmp} {pos : String} {aft : Array Edge} {gd g : Option (Nat × Bool)}
variable {B : Nat} {w0 : World} {L L' : List Rg}

/-! bits of ints that are not below 0 -/
def bvopN (op : BinOp) (a b : Nat) : Nat := match op with | .and => a &&& b | .or => a ||| b | _ => a ^^^ b
theorem Plan.bitsN {op : BinOp} {t yt : TypeId} {x y : Operand} {a b : Nat} (hg : wantedE n e g = true) (hx : ev n e x = VN a) (hy : ev n e y = VN b) (ha : a < 9223372036854775808) (hb : b < 9223372036854775808) (hop : op = .and ∨ op = .or ∨ op = .xor)
    (h : Plan P n K l O (upd e d (VN (bvopN op a b))) w) : Plan P n K (⟨i, true, ⟨some d, .binOp op t x y yt, ty, pos, aft, gd⟩, g⟩ :: l) O e w :=
  Plan.val hg (fun w => run_bin hx hy (by
    have key : ∀ Z : BitVec 64, Z.toNat < 9223372036854775808 → (Sem.pure (Value.int .i64 (IntKind.i64.wrap Z.toNat))).run P w = .ok (VN Z.toNat) w := fun Z hZ => by
      rw [wrap_i64_in _ (by omega)]; rfl
    have e1 : (BitVec.ofNat 64 a).toNat = a := by simp only [BitVec.toNat_ofNat]; omega
    have e2 : (BitVec.ofNat 64 b).toNat = b := by simp only [BitVec.toNat_ofNat]; omega
    have h63 : ∀ z : Nat, z < 9223372036854775808 ↔ z < 2 ^ 63 := fun z => by omega
    rcases hop with rfl | rfl | rfl <;> simp only [binOp, ne_eq, not_true_eq_false, if_false, Op.intBits, BitVec.ofInt_natCast]
    · have e3 : (BitVec.ofNat 64 a &&& BitVec.ofNat 64 b).toNat = a &&& b := by rw [BitVec.toNat_and, e1, e2]
      refine (key (BitVec.ofNat 64 a &&& BitVec.ofNat 64 b) ?_).trans ?_
      · rw [e3]; rw [h63] at *; exact Nat.and_lt_two_pow _ hb
      · rw [e3]; rfl
    · have e3 : (BitVec.ofNat 64 a ||| BitVec.ofNat 64 b).toNat = a ||| b := by rw [BitVec.toNat_or, e1, e2]
      refine (key (BitVec.ofNat 64 a ||| BitVec.ofNat 64 b) ?_).trans ?_
      · rw [e3]; rw [h63] at *; exact Nat.or_lt_two_pow ha hb
      · rw [e3]; rfl
    · have e3 : (BitVec.ofNat 64 a ^^^ BitVec.ofNat 64 b).toNat = a ^^^ b := by rw [BitVec.toNat_xor, e1, e2]
      refine (key (BitVec.ofNat 64 a ^^^ BitVec.ofNat 64 b) ?_).trans ?_
      · rw [e3]; rw [h63] at *; exact Nat.xor_lt_two_pow ha hb
      · rw [e3]; rfl)) h
theorem Plan.andN {t yt : TypeId} {x y : Operand} {a b : Nat} (hg : wantedE n e g = true) (hx : ev n e x = VN a) (hy : ev n e y = VN b) (hb : a < 9223372036854775808 ∧ b < 9223372036854775808)
    (h : Plan P n K l O (upd e d (VN (a &&& b))) w) : Plan P n K (⟨i, true, ⟨some d, .binOp .and t x y yt, ty, pos, aft, gd⟩, g⟩ :: l) O e w := Plan.bitsN hg hx hy hb.1 hb.2 (by simp) h
theorem Plan.orN {t yt : TypeId} {x y : Operand} {a b : Nat} (hg : wantedE n e g = true) (hx : ev n e x = VN a) (hy : ev n e y = VN b) (hb : a < 9223372036854775808 ∧ b < 9223372036854775808)
    (h : Plan P n K l O (upd e d (VN (a ||| b))) w) : Plan P n K (⟨i, true, ⟨some d, .binOp .or t x y yt, ty, pos, aft, gd⟩, g⟩ :: l) O e w := Plan.bitsN hg hx hy hb.1 hb.2 (by simp) h
theorem Plan.xorN {t yt : TypeId} {x y : Operand} {a b : Nat} (hg : wantedE n e g = true) (hx : ev n e x = VN a) (hy : ev n e y = VN b) (hb : a < 9223372036854775808 ∧ b < 9223372036854775808)
    (h : Plan P n K l O (upd e d (VN (a ^^^ b))) w) : Plan P n K (⟨i, true, ⟨some d, .binOp .xor t x y yt, ty, pos, aft, gd⟩, g⟩ :: l) O e w := Plan.bitsN hg hx hy hb.1 hb.2 (by simp) h

/-! bools compared -/
def boolB (P : Program) (t : Nat) : Bool := match P.underlying t with | some .bool => true | _ => false
theorem run_equalBool {t : TypeId} (ht : boolB P t = true) (a b : Bool) (w : World) : (Op.equal t (.bool a) (.bool b)).run P w = .ok (a == b) w := by
  have hu : P.underlying t = some .bool := by
    unfold boolB at ht
    split at ht
    · assumption
    · cases ht
  unfold Op.equal
  rw [show Op.maxDepth = 9999 + 1 by rfl]
  unfold Op.equalIn
  simp [run_underlying hu]
theorem Plan.eqBoolV {t yt : TypeId} {x y : Operand} {a b v : Bool} (ht : boolB P t = true) (hg : wantedE n e g = true) (hx : ev n e x = .bool a) (hy : ev n e y = .bool b) (hv : (a == b) = v)
    (h : Plan P n K l O (upd e d (.bool v)) w) : Plan P n K (⟨i, true, ⟨some d, .binOp .eql t x y yt, ty, pos, aft, gd⟩, g⟩ :: l) O e w := Plan.val hg (fun w => by
    refine run_v ?_
    rw [hx, hy, ← hv]
    have h0 := run_equalBool (P := P) ht a b w
    simp [eqGuard, binOp, h0]) h
theorem Plan.neBoolV {t yt : TypeId} {x y : Operand} {a b v : Bool} (ht : boolB P t = true) (hg : wantedE n e g = true) (hx : ev n e x = .bool a) (hy : ev n e y = .bool b) (hv : (a != b) = v)
    (h : Plan P n K l O (upd e d (.bool v)) w) : Plan P n K (⟨i, true, ⟨some d, .binOp .neq t x y yt, ty, pos, aft, gd⟩, g⟩ :: l) O e w := Plan.val hg (fun w => by
    refine run_v ?_
    rw [hx, hy, ← hv]
    have h0 := run_equalBool (P := P) ht a b w
    simp [eqGuard, binOp, h0, bne]) h
theorem Plan.eqStrV {t yt : TypeId} {x y : Operand} {X Y : List Byte} {v : Bool} (hg : wantedE n e g = true) (hx : ev n e x = .string (strL X)) (hy : ev n e y = .string (strL Y)) (hv : decide (X = Y) = v)
    (h : Plan P n K l O (upd e d (.bool v)) w) : Plan P n K (⟨i, true, ⟨some d, .binOp .eql t x y yt, ty, pos, aft, gd⟩, g⟩ :: l) O e w := Plan.eqStr hg hx hy (by rw [hv]; exact h)
theorem Plan.neStrV {t yt : TypeId} {x y : Operand} {X Y : List Byte} {v : Bool} (hg : wantedE n e g = true) (hx : ev n e x = .string (strL X)) (hy : ev n e y = .string (strL Y)) (hv : decide (X = Y) = v)
    (h : Plan P n K l O (upd e d (.bool (!v))) w) : Plan P n K (⟨i, true, ⟨some d, .binOp .neq t x y yt, ty, pos, aft, gd⟩, g⟩ :: l) O e w := Plan.val hg (fun w => run_stringOp hx hy (by
      unfold Op.stringOp
      show (pure (Value.bool ((strL X).toList != (strL Y).toList)) : Sem Value).run P w = _
      have h1 := toList_inj (A := strL X) (B := strL Y)
      have h2 : ((strL X).toList != (strL Y).toList) = !v := by
        rw [bne, h1, ← hv]; congr 1; exact decide_eq_decide.2 strL_inj
      rw [h2]; rfl) (.inr rfl)) h

/-! slices of views: a new view -/
theorem Plan.slV {t : TypeId} {x : Operand} {ix len cap lo hi : Nat} {a : Option Addr} {X : List Byte} {low high : Option Operand} (hX : Bx L ix a len cap X) (ha : slB P t 1 = true) (hg : wantedE n e g = true) (hx : ev n e x = .slice a len cap)
    (hlo : match low with | some y => ∃ k, ev n e y = .int k (lo : Int) | none => lo = 0) (hhi : match high with | some y => ∃ k, ev n e y = .int k (hi : Int) | none => hi = len) (hb : lo ≤ hi ∧ hi ≤ len)
    (h : ∀ a' c', Bx L ix a' (seg X lo hi).length c' (seg X lo hi) → Plan P n K l O (upd e d (.slice a' (seg X lo hi).length c')) w) : Plan P n K (⟨i, true, ⟨some d, .slice t x low high none, ty, pos, aft, gd⟩, g⟩ :: l) O e w := by
  have h1 := hX.seg hb
  have h2 : (seg X lo hi).length = hi - lo := h1.hl
  refine Plan.slSl ha hg hx hlo hhi (by have := hX.le; omega) ?_
  rw [← h2] at h1 ⊢
  exact h _ _ h1
/-- a slice of an array that is a variable, elements of one cell -/
theorem Plan.slArrO {t : TypeId} {x : Operand} {b o len lo hi m c o' : Nat} {low high : Option Operand} (ha : arrB P t len 1 = true) (hg : wantedE n e g = true) (hx : ev n e x = .pointer (some ⟨b, o, none⟩))
    (hlo : match low with | some y => ∃ k, ev n e y = .int k (lo : Int) | none => lo = 0) (hhi : match high with | some y => ∃ k, ev n e y = .int k (hi : Int) | none => hi = len) (hb : lo ≤ hi ∧ hi ≤ len ∧ lo < len) (hm : hi - lo = m) (hc : len - lo = c) (ho : o + lo = o')
    (h : Plan P n K l O (upd e d (.slice (some ⟨b, o', none⟩) m c)) w) : Plan P n K (⟨i, true, ⟨some d, .slice t x low high none, ty, pos, aft, gd⟩, g⟩ :: l) O e w :=
  Plan.slArr ha hg hx hlo hhi hb (by rw [Nat.mul_one, hm, hc, ho]; exact h)
/-- string(b) of a view -/
theorem Plan.toStrV (hst : St B w0 L w) {src dst el : TypeId} {x : Operand} {a : Option Addr} {ix len c : Nat} {X : List Byte} (hX : Bx L ix a len c X) (hs : P.underlying src = some (.slice el)) (he : P.underlying el = some (.int .u8)) (hd : P.underlying dst = some .string) (hg : wantedE n e g = true)
    (hx : ev n e x = .slice a len c) (h : ∀ r : Rg, (r.n = 0 ∨ L[ix]? = some r) → Plan P n K l ((i, r.at) :: O) (upd e d (.string (strL X))) w) :
    Plan P n K (⟨i, true, ⟨some d, .convert src dst x, ty, pos, aft, gd⟩, g⟩ :: l) O e w := by
  obtain ⟨hl, hc, h0⟩ := hX
  by_cases hn : 0 < len
  · obtain ⟨offs, ms, js, os, ps, G, rw, h1, h2, h3, h4, h6⟩ := h0 hn
    have hr := h _ (.inr h1)
    refine Plan.held _ hg (hst.mem h1) (fun w hw => run_v ?_) hr
    rw [hx]
    obtain ⟨b, hp, ha⟩ := h2 hn
    subst ha
    refine run_convert_bytes_arg w src el hs he b os len c (X.map fun b => (b.toNat : Int)) (by simpa using hl) (fun q hq => ?_) dst hd
    obtain ⟨b', hp', hc'⟩ := hw (js + q) (show js + q < ms by omega)
    simp only at hp'
    rw [hp] at hp'
    obtain rfl := Option.some.inj hp'
    rw [h3, Nat.add_assoc]
    rw [hc']
    show some (VU .u8 (G (js + q))) = _
    rw [← h6 q hq]
    congr 1
    unfold lit
    simp only [List.getD_eq_getElem?_getD, List.getElem?_map]
    rw [List.getElem?_eq_getElem (by omega)]
    simp
  · obtain rfl : len = 0 := by omega
    obtain rfl := List.length_eq_zero_iff.1 hl
    have hr := h ⟨none, 0, 0, fun _ => undef, true⟩ (.inl rfl)
    refine Plan.held _ hg (fun j hj => absurd hj (Nat.not_lt_zero j)) (fun w hw => run_v ?_) hr
    rw [hx, run_convert_bytes_string w src dst el _ 0 c hs he hd]
    cases a <;> simp [Conv.bytesToString, loadCells]
    all_goals rfl

/-! slices made -/
theorem Plan.makeO (hst : St B w0 L w) {t : TypeId} {x y : Operand} {len c : Nat} {k k' : IntKind} (he : elD P t = some (1, 1, some (VU .u8 0#8))) (hg : wantedE n e g = true) (hx : ev n e x = .int k (len : Int)) (hy : ev n e y = .int k' (c : Int)) (hlc : len ≤ c) (hc : c ≤ 281474976710656)
    (hO : ∀ r, EffO aft O (r :: L) O')
    (h : ∀ b w', B ≤ b → Ow (some ⟨b, 0, none⟩) (some b) (List.replicate len 0#8).length c (fun _ => 0#8) (List.replicate len 0#8) → St B w0 (⟨some b, 0, c, fun q => VU .u8 ((fun _ => 0#8 : Nat → Byte) q), true⟩ :: L) w' → Plan P n K l O' (updO e (some d) (.slice (some ⟨b, 0, none⟩) (List.replicate len 0#8).length c)) w') :
    Plan P n K (⟨i, false, ⟨some d, .makeSlice t x y, ty, pos, aft, gd⟩, g⟩ :: l) O e w := by
  obtain ⟨el, inf, hu, hi, hs, hby, hz⟩ := elB_of he
  have hr := run_make (P := P) w t el inf _ hu hi hz k k' len c (Int.natCast_nonneg _) (by omega) (by rw [hby]; omega) (by omega)
  have hm : madeCells (VU .u8 0#8 : Value).cells ((c : Int).toNat * inf.size) = (catL [(c, fun _ => VU .u8 0#8)]).toArray := by
    rw [hs, Int.toNat_natCast, Nat.mul_one, catL_one]
    show madeCells #[VU .u8 0#8] c = _
    unfold madeCells
    apply Array.ext'
    apply List.ext_getElem?
    intro q
    by_cases hq : q < c
    · simp [hq, Nat.mod_one]
    · simp [hq]
  rw [hm] at hr
  have hO2 : Ow (some ⟨w.heap.size, 0, none⟩) (some w.heap.size) (List.replicate len 0#8).length c (fun _ => 0#8) (List.replicate len 0#8) := by
    refine ⟨.inr ⟨_, rfl, rfl⟩, by rw [List.length_replicate]; exact hlc, rfl, fun q hq => ?_⟩
    unfold lit
    rw [List.getD_eq_getElem?_getD, List.getElem?_replicate]
    split <;> rfl
  refine Plan.effS (w' := w.alloc (.cells (catL [(c, fun _ => VU .u8 0#8)]).toArray el)) (v := .slice (some ⟨w.heap.size, 0, none⟩) (List.replicate len 0#8).length c) hg (run_v ?_) (hst.alloc [(c, fun _ => VU .u8 0#8)] el) (hO _) (fun w' hw' => h _ w' hst.base hO2 hw')
  rw [hx, hy, hr]
  simp

/-! an array out of a view -/
theorem Plan.sl2arrV {t : TypeId} {x : Operand} {ix m len cap : Nat} {a : Option Addr} {X : List Byte} {el : TypeId} (hX : Bx L ix a len cap X) (hu : P.underlying t = some (.array m el)) (hg : wantedE n e g = true) (hx : ev n e x = .slice a len cap) (hm : 0 < m ∧ m ≤ len)
    (h : Plan P n K l O (upd e d (.pointer a)) w) : Plan P n K (⟨i, true, ⟨some d, .sliceToArrayPointer t x, ty, pos, aft, gd⟩, g⟩ :: l) O e w := by
  obtain ⟨hl, hc, h0⟩ := hX
  obtain ⟨offs, ms, js, os, ps, G, rw, h1, h2, h3, h4, h6⟩ := h0 (by omega)
  obtain ⟨b, hp, ha⟩ := h2 (by omega)
  subst ha
  exact Plan.sl2arr (o := os) (b := b) hu hg hx (fun _ => ⟨b, rfl, rfl⟩) hm h
theorem Plan.loadAV (hst : St B w0 L w) {t : TypeId} {x : Operand} {ix m len cc : Nat} {a : Option Addr} {X : List Byte} (hX : Bx L ix a len cc X) (hg : wantedE n e g = true) (hx : ev n e x = .pointer a) (hm : 0 < m ∧ m ≤ len) (ht : aggT P t m = true)
    (h : ∀ r, L[ix]? = some r → Plan P n K l ((i, r.at) :: O) (upd e d (AG [(m, fun q => VU .u8 (lit X q))])) w) : Plan P n K (⟨i, true, ⟨some d, .load t x, ty, pos, aft, gd⟩, g⟩ :: l) O e w := by
  obtain ⟨hl, hc, h0⟩ := hX
  obtain ⟨offs, ms, js, os, ps, G, rw, h1, h2, h3, h4, h6⟩ := h0 (by omega)
  obtain ⟨b, hp, ha⟩ := h2 (by omega)
  subst ha hp
  refine Plan.loadSub hst ix js hg hx h1 h3 (by omega) ht ?_
  have h7 := h _ h1
  have e1 : AG [(m, fun q => VU .u8 (G (js + q)))] = AG [(m, fun q => VU .u8 (lit X q))] := by
    unfold AG
    rw [catL_one, catL_one]
    congr 2
    exact List.map_congr_left fun q hq => by rw [h6 q (by have := List.mem_range.1 hq; omega)]
  rw [e1]
  exact h7

/-! a literal without parts: the zero -/
def rowB (P : Program) (t : Nat) : Bool := match P.underlying t with
  | some (.struct fs) => fs.toList.all fun f => match P.info? f.type with | some i => decide (i.size < 1000000) | none => false
  | some (.array _ el) => (match P.info? el with | some i => i.size < 1000000 | none => false)
  | _ => false
theorem Plan.buildZ {t : TypeId} {zps : List (Nat × (Nat → Value))} (ht : rowB P t = true) (hz : zeroIs P t zps) (hg : wantedE n e g = true)
    (h : Plan P n K l O (upd e d (AG zps)) w) : Plan P n K (⟨i, true, ⟨some d, .build t #[], ty, pos, aft, gd⟩, g⟩ :: l) O e w := by
  cases hu : P.underlying t with
  | none => unfold rowB at ht; rw [hu] at ht; cases ht
  | some u =>
    unfold rowB at ht
    rw [hu] at ht
    cases u with
    | array len el =>
      cases hi : P.info? el with
      | none => simp only [hi] at ht; cases ht
      | some inf => exact Plan.buildArr (len := len) (sz := inf.size) (zps := zps) (ps := zps) (vs := []) (by unfold arrB; rw [hu]; simp [szT, hi]) hz hg rfl rfl h
    | struct fs =>
      refine Plan.buildStr (zps := zps) (ps := zps) (vs := []) (pl := fs.toList.map (fun f => (f.offset, match P.info? f.type with | some i => i.size | none => 1000000007))) (by unfold placesB; rw [hu]; exact beq_self_eq_true _) ?_ hz hg rfl rfl h
      simp only [List.all_eq_true] at ht
      simp only [List.all_eq_true, List.mem_map]
      rintro q ⟨f, hf, rfl⟩
      have h1 := ht f hf
      cases hi : P.info? f.type with
      | none => rw [hi] at h1; cases h1
      | some inf => rw [hi] at h1; simpa using h1
    | _ => cases ht

/-! a closure called: what it has captured is handed in behind the arguments -/
theorem Plan.makeF {f : FuncId} {captured : Array Operand} {cs : List Value} (hg : wantedE n e g = true) (hc : captured.toList.map (ev n e) = cs) (h : Plan P n K l O (upd e d (.func (.func f) #[] cs.toArray)) w) :
    Plan P n K (⟨i, true, ⟨some d, .makeFunc (.func f) #[] captured, ty, pos, aft, gd⟩, g⟩ :: l) O e w :=
  Plan.val hg (fun w => run_v (by
    have : captured.map (ev n e) = cs.toArray := by rw [← hc, ← Array.toList_map]
    rw [this]; simp [Instr.makeFunc])) h
theorem run_callF {x : Operand} {f : FuncId} {ρ : Operand → Value} {args : Array Operand} {at' : Array TypeId} {dst : Option Tmp} {cs : Array Value} (hok : callB P f = true) (hx : ρ x = .func (.func f) #[] cs) (w : World) :
    (execOp ρ ⟨dst, .call ⟨.value x, args, at'⟩, ty, pos, aft, gd⟩).run P w = .ok (.enter f (args.map ρ ++ cs)) w := by
  unfold callB at hok
  cases hf : P.funcs[f]? with
  | none => rw [hf] at hok; cases hok
  | some fn =>
    rw [hf] at hok
    simp only [Bool.and_eq_true, Bool.not_eq_true'] at hok
    simp only [execOp, resolve, hx, Deferred.ofValue, Sem.run_bind, Sem.run_pure, Result.andThen, invoke, callFunc, run_program, hf, hok.1, hok.2, Bool.false_eq_true, if_false]
    simp
theorem Plan.callF {x : Operand} {f : FuncId} {args : Array Operand} {at' : Array TypeId} {dst : Option Tmp} {vs cs : List Value} {R : Ending → World → Prop} (hx : ev n e x = .func (.func f) #[] cs.toArray) (hg : wantedE n e g = true) (hok : callB P f = true) (hargs : args.toList.map (ev n e) = vs)
    (hc : Calls P f (vs ++ cs).toArray w R)
    (hR : ∀ x' w', R x' w' → ∃ v, x' = .returned v ∧ (((∀ p ∈ O, p.2 w → p.2 w') ∧ Plan P n K l O (updO e dst v) w') ∨ (O.all (fun p => waitsO ⟨dst, .call ⟨.value x, args, at'⟩, ty, pos, aft, gd⟩ p.1) = true ∧ Plan P n K l [] (updO e dst v) w'))) :
    Plan P n K (⟨i, false, ⟨dst, .call ⟨.value x, args, at'⟩, ty, pos, aft, gd⟩, g⟩ :: l) O e w := by
  refine Plan.eff hg ?_
  rw [run_callF (P := P) hok hx w]
  show Calls P f (args.map (ev n e) ++ cs.toArray) w _
  have : args.map (ev n e) ++ cs.toArray = (vs ++ cs).toArray := by
    rw [← hargs, List.append_toArray, ← Array.toList_map]
  rw [this]
  exact hc.mono hR
end step
end Go.LW
