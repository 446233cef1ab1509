/-
  ENGINE, PART 13 (own work): the lesser of two; bytes as strings.
-/
import Derived.Test.YtjdgbahjpdopbaaDoorLw12
import Derived.Laws.BytesArg
namespace Go.LW
set_option linter.unusedSimpArgs false
set_option linter.unusedVariables false
set_option linter.unusedSectionVars false
open Go Go.RowKit

/-- bytes as a string -/
def strL (X : List Byte) : ByteArray := strOfNums (X.map fun b => (b.toNat : Int))
theorem list_map_inj {α β : Type} {f : α → β} (hf : ∀ a b, f a = f b → a = b) : ∀ {X Y : List α}, X.map f = Y.map f → X = Y
  | [], [], _ => rfl
  | [], _ :: _, h => by cases h
  | _ :: _, [], h => by cases h
  | a :: X, b :: Y, h => by
    simp only [List.map_cons, List.cons.injEq] at h
    rw [hf a b h.1, list_map_inj hf h.2]
theorem strL_inj {X Y : List Byte} : strL X = strL Y ↔ X = Y := by
  constructor
  · intro h
    have h1 : (strL X).data.toList = (strL Y).data.toList := by rw [h]
    unfold strL at h1
    rw [strOfNums_data, strOfNums_data, List.map_map, List.map_map] at h1
    refine list_map_inj ?_ h1
    intro a b hab
    have h2 : (UInt8.ofNat a.toNat).toNat = (UInt8.ofNat b.toNat).toNat := congrArg UInt8.toNat hab
    have ha := a.isLt
    have hb := b.isLt
    simp at h2
    exact BitVec.eq_of_toNat_eq (by omega)
  · rintro rfl; rfl

section step
variable {P : Program} {n : Nat} {K : Pend → Env → World → Prop} {l : List It} {O O' : Pend} {e : Env} {w : World} {i ty : Nat} {d : Tmp} {pos : String} {aft : Array Edge} {gd g : Option (Nat × Bool)}
variable {B : Nat} {w0 : World} {L L' : List Rg}

theorem run_blt2s {bt : Builtin} {x y : Operand} {ρ : Operand → Value} {at' : Array TypeId} {ty : TypeId} {v : Value} {dst : Option Tmp} {w w' : World}
    (h : ∀ cs, (builtin bt at' ty cs #[ρ x, ρ y]).run P w = .ok (.value v) w') : (execOp ρ ⟨dst, .call ⟨.builtin bt, #[x, y], at'⟩, ty, pos, aft, gd⟩).run P w = .ok (.value v) w' := by
  have e1 : Array.map ρ #[x, y] = #[ρ x, ρ y] := by simp
  simp only [execOp, resolve, Sem.run_bind, Sem.run_pure, Result.andThen, invoke, e1]
  exact h _
theorem Plan.minN {at' : Array TypeId} {x y : Operand} {a b : Nat} (hg : wantedE n e g = true) (hx : ev n e x = VN a) (hy : ev n e y = VN b) (h : Plan P n K l O (upd e d (VN (min a b))) w) :
    Plan P n K (⟨i, true, ⟨some d, .call ⟨.builtin .min, #[x, y], at'⟩, ty, pos, aft, gd⟩, g⟩ :: l) O e w :=
  Plan.val hg (fun w => run_blt2s (P := P) fun cs => by
    rw [hx, hy]
    simp only [builtin, Sem.run_bind, Builtin.min_, List.foldlM_cons, List.foldlM_nil, Builtin.min2, Sem.run_pure, Result.andThen_ok]
    have e1 : (if ((b : Int) < (a : Int)) then (b : Int) else (a : Int)) = ((min a b : Nat) : Int) := by
      split <;> omega
    rw [e1]) h

theorem Plan.toStr (hst : St B w0 L w) {src dst el : TypeId} {x : Operand} {a : Option Addr} {len c : Nat} {X : List Byte} (hs : P.underlying src = some (.slice el)) (he : P.underlying el = some (.int .u8)) (hd : P.underlying dst = some .string) (hg : wantedE n e g = true)
    (hx : ev n e x = .slice a len c) (hX : Bs L a len c (lit X)) (hl : X.length = len) (h : ∀ r : Rg, r ∈ L → Plan P n K l ((i, r.at) :: O) (upd e d (.string (strL X))) w) :
    Plan P n K (⟨i, true, ⟨some d, .convert src dst x, ty, pos, aft, gd⟩, g⟩ :: l) O e w := by
  obtain ⟨iS, offs, ms, js, os, ps, G, rw, h1, h2, h3, h4, h5, h6⟩ := hX
  refine Plan.held _ hg (hst.mem h1) (fun w hw => run_v ?_) (h _ (List.mem_of_getElem? h1))
  rw [hx]
  by_cases h0 : len = 0
  · subst h0
    obtain rfl := List.length_eq_zero_iff.1 hl
    rw [run_convert_bytes_string w src dst el _ 0 c hs he hd]
    cases a <;> simp [Conv.bytesToString, loadCells]
    all_goals rfl
  · obtain ⟨b, hp, ha⟩ := h2 (by omega)
    subst ha
    refine run_convert_bytes_arg w src el hs he b os len c (X.map fun b => (b.toNat : Int)) (by simpa using hl) (fun q hq => ?_) dst hd
    obtain ⟨b', hp', hc⟩ := hw (js + q) (show js + q < ms by omega)
    simp only at hp'
    obtain rfl : b = b' := by rw [hp] at hp'; exact Option.some.inj hp'
    rw [h3, Nat.add_assoc]
    refine hc.trans ?_
    show some (VU .u8 (G (js + q))) = _
    rw [← h6 q hq]
    unfold lit
    simp [List.getD_eq_getElem?_getD, show q < X.length by omega]

theorem run_stringOp {op : BinOp} {t yt : TypeId} {x y : Operand} {ρ : Operand → Value} {A B : ByteArray} {v : Value} {dst : Option Tmp} {w : World} (hx : ρ x = .string A) (hy : ρ y = .string B) (h : (Op.stringOp op A B).run P w = .ok v w) (hop : op = .eql ∨ op = .neq) :
    (execOp ρ ⟨dst, .binOp op t x y yt, ty, pos, aft, gd⟩).run P w = .ok (.value v) w := by
  refine run_v ?_
  rw [hx, hy]
  have hq : (eqGuard op t x y (.string A) (.string B)).run P w = .ok () w := by
    unfold eqGuard; cases op <;> rfl
  rw [Sem.run_bind, hq]
  rcases hop with rfl | rfl <;> exact h
theorem toList_inj {A B : ByteArray} : (A.toList == B.toList) = decide (A = B) := by
  rw [Bool.eq_iff_iff, beq_iff_eq, decide_eq_true_iff]
  constructor
  · intro h
    rw [ByteArray.toList_eq, ByteArray.toList_eq] at h
    exact ByteArray.ext (Array.toList_inj.1 h)
  · rintro rfl; rfl
theorem Plan.eqStr {t yt : TypeId} {x y : Operand} {X Y : List Byte} (hg : wantedE n e g = true) (hx : ev n e x = .string (strL X)) (hy : ev n e y = .string (strL Y))
    (h : Plan P n K l O (upd e d (.bool (decide (X = Y)))) w) : Plan P n K (⟨i, true, ⟨some d, .binOp .eql t x y yt, ty, pos, aft, gd⟩, g⟩ :: l) O e w :=
  Plan.val hg (fun w => run_stringOp hx hy (by
    simp only [Op.stringOp, Sem.run_pure, toList_inj, strL_inj]) (.inl rfl)) h
end step
end Go.LW
