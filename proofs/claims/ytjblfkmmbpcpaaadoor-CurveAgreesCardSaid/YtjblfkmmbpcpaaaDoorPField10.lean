/-
  PLAIN (own work), FIELD PART 10: Add, Sub.
-/
import Derived.Test.YtjblfkmmbpcpaaaDoorPField9
import Derived.Test.YtjblfkmmbpcpaaaDoorFldT
namespace Go.Proofs.YtjblfkmmbpcpaaaDoor
set_option linter.unusedSimpArgs false
set_option linter.unusedVariables false
set_option linter.unusedSectionVars false
open Go Go.LW
set_option maxRecDepth 10000

def addA (a b : F5) (i : Nat) : F5 := fun q => if q < i then a q + b q else a q
def addF (a b : F5) : F5 := carF (addA a b 5)
theorem add_ok (a b : F5) : field_Elem_Add a b (addF a b) := by
  refine ⟨addA a b 5, ?_, _, car_ok _, rfl⟩
  have e : addA a b 0 = a := by funext q; unfold addA; rw [if_neg (by omega)]
  have h := Iter.count (step := field_Elem_Add_l0 b) (x := addA a b 5) (fun i => (i, addA a b i)) 5 (fun i hi => by
    unfold field_Elem_Add_l0; dsimp only
    rw [if_pos hi]
    have : upd (addA a b i) i (addA a b i i + b i) = addA a b (i + 1) := by
      funext q
      rw [upd_at]
      unfold addA
      by_cases h : q = i
      · subst h; rw [if_pos rfl, if_neg (by omega), if_pos (by omega)]
      · rw [if_neg h]
        by_cases h2 : q < i
        · rw [if_pos h2, if_pos (by omega)]
        · rw [if_neg h2, if_neg (by omega)]
    rw [this]) (by
    unfold field_Elem_Add_l0; dsimp only
    rw [if_neg (by omega)])
  rw [e] at h
  exact h
theorem rp_add {a b : F5} {x y : Fp} (ha : Rp a x) (hb : Rp b y) : Rp (addF a b) (x + y) := by
  have hq : ∀ q, q < 5 → (addA a b 5 q).toNat = (a q).toNat + (b q).toNat := fun q hq => by
    have h1 := ha.1 q hq
    have h2 := hb.1 q hq
    unfold Tt at h1 h2
    unfold addA
    rw [if_pos hq, BitVec.toNat_add, Nat.mod_eq_of_lt (by omega)]
  have hbd : Bnd (2 ^ 63) (addA a b 5) := fun q hq5 => by
    have h1 := ha.1 q hq5
    have h2 := hb.1 q hq5
    unfold Tt at h1 h2
    rw [hq q hq5]; omega
  refine ⟨carF_bt _ hbd, ?_⟩
  unfold addF
  rw [ofN_mod (carF_mod _ hbd)]
  have : val (addA a b 5) = val a + val b := by
    unfold val
    rw [hq 0 (by omega), hq 1 (by omega), hq 2 (by omega), hq 3 (by omega), hq 4 (by omega)]
    omega
  rw [this, ofN_add, ha.2, hb.2]
def subA (a b : F5) (i : Nat) : F5 := fun q => if q < i then a q + (twice5 q - b q) else a q
def subF (a b : F5) : F5 := carF (subA a b 5)
theorem sub_ok (a b : F5) : field_Elem_Sub a b (subF a b) := by
  refine ⟨subA a b 5, ?_, _, car_ok _, rfl⟩
  have e : subA a b 0 = a := by funext q; unfold subA; rw [if_neg (by omega)]
  have h := Iter.count (step := field_Elem_Sub_l0 b) (x := subA a b 5) (fun i => (i, subA a b i)) 5 (fun i hi => by
    unfold field_Elem_Sub_l0; dsimp only
    rw [if_pos hi]
    have : upd (subA a b i) i (subA a b i i + (twice5 i - b i)) = subA a b (i + 1) := by
      funext q
      rw [upd_at]
      unfold subA
      by_cases h : q = i
      · subst h; rw [if_pos rfl, if_neg (by omega), if_pos (by omega)]
      · rw [if_neg h]
        by_cases h2 : q < i
        · rw [if_pos h2, if_pos (by omega)]
        · rw [if_neg h2, if_neg (by omega)]
    rw [this]) (by
    unfold field_Elem_Sub_l0; dsimp only
    rw [if_neg (by omega)])
  rw [e] at h
  exact h
theorem twice_at : ∀ q, q < 5 → (twice5 q).toNat = if q = 0 then 4503599627370458 else 4503599627370494 := by decide +kernel
theorem rp_sub {a b : F5} {x y : Fp} (ha : Rp a x) (hb : Rp b y) : Rp (subF a b) (x - y) := by
  have hq : ∀ q, q < 5 → (subA a b 5 q).toNat + (b q).toNat = (a q).toNat + (twice5 q).toNat := fun q hq => by
    have h1 := ha.1 q hq
    have h2 := hb.1 q hq
    have h3 := twice_at q hq
    unfold Tt at h1 h2
    unfold subA
    rw [if_pos hq, BitVec.toNat_add, BitVec.toNat_sub, h3]
    split <;> omega
  have hbd : Bnd (2 ^ 63) (subA a b 5) := fun q hq5 => by
    have h1 := ha.1 q hq5
    have h2 := hb.1 q hq5
    have h3 := twice_at q hq5
    have h4 := hq q hq5
    unfold Tt at h1 h2
    rw [h3] at h4
    split at h4 <;> omega
  refine ⟨carF_bt _ hbd, ?_⟩
  unfold subF
  rw [ofN_mod (carF_mod _ hbd)]
  have hp : p255 = 57896044618658097711785492504343953926634992332820282019728792003956564819949 := by decide
  have : val (subA a b 5) + val b = val a + 2 * p255 := by
    have q0 := hq 0 (by omega)
    have q1 := hq 1 (by omega)
    have q2 := hq 2 (by omega)
    have q3 := hq 3 (by omega)
    have q4 := hq 4 (by omega)
    rw [twice_at _ (by omega)] at q0 q1 q2 q3 q4
    rw [if_pos rfl] at q0
    rw [if_neg (by omega)] at q1 q2 q3 q4
    unfold val
    rw [hp]
    omega
  have h2 : ofN (val (subA a b 5)) + y = x := by
    rw [← hb.2, ← ofN_add, this, ofN_add, ha.2, ofN_mul, ofN_p]
    grind
  generalize ofN (val (subA a b 5)) = z at h2 ⊢
  grind
end Go.Proofs.YtjblfkmmbpcpaaaDoor
