/-
  PLAIN (own work), FIELD PART 8: elements as numbers modulo p; powers; equality.
-/
import Derived.Test.YtjblfkmmbpcpaaaDoorPField4
import Derived.Test.YtjblfkmmbpcpaaaDoorPField7
import Derived.Test.YtjblfkmmbpcpaaaDoorPNum
namespace Go.Proofs.YtjblfkmmbpcpaaaDoor
set_option linter.unusedSimpArgs false
set_option linter.unusedVariables false
set_option linter.unusedSectionVars false
open Go Go.LW
set_option maxRecDepth 10000

instance : NeZero p255 := ⟨by decide⟩
abbrev Fp := Fin p255
theorem p_lt' : p255 < 2 ^ 255 := by decide
def ofN (n : Nat) : Fp := Fin.ofNat p255 n
theorem ofN_val (n : Nat) : (ofN n).val = n % p255 := rfl
theorem ofN_eq {m n : Nat} : ofN m = ofN n ↔ m % p255 = n % p255 := by
  constructor
  · intro h; exact congrArg Fin.val h
  · intro h; exact Fin.ext h
theorem ofN_mul (m n : Nat) : ofN (m * n) = ofN m * ofN n := by
  apply Fin.ext
  rw [Fin.val_mul, ofN_val, ofN_val, ofN_val, ← Nat.mul_mod]
theorem ofN_add (m n : Nat) : ofN (m + n) = ofN m + ofN n := by
  apply Fin.ext
  rw [Fin.val_add, ofN_val, ofN_val, ofN_val, ← Nat.add_mod]
theorem ofN_one : ofN 1 = 1 := rfl
theorem ofN_zero : ofN 0 = 0 := rfl
theorem ofN_mod {m n : Nat} (h : m % p255 = n % p255) : ofN m = ofN n := ofN_eq.2 h
theorem ofN_self (x : Fp) : ofN x.val = x := Fin.ext (Nat.mod_eq_of_lt x.isLt)
theorem ofN_pow (m : Nat) : ∀ n, ofN (m ^ n) = ofN m ^ n
  | 0 => by rw [Nat.pow_zero, ofN_one]; exact (by grind : (1 : Fp) = ofN m ^ 0)
  | n + 1 => by rw [Nat.pow_succ, ofN_mul, ofN_pow m n]; grind
theorem ofN_p : ofN p255 = 0 := Fin.ext (Nat.mod_self p255)
theorem ofN_inj {m n : Nat} (hm : m < p255) (hn : n < p255) (h : ofN m = ofN n) : m = n := by
  have := ofN_eq.1 h
  rwa [Nat.mod_eq_of_lt hm, Nat.mod_eq_of_lt hn] at this

/-- limbs that stand for a number -/
def Rp (l : F5) (x : Fp) : Prop := Bnd Tt l ∧ ofN (val l) = x
theorem Rp.b63 {l : F5} {x : Fp} (h : Rp l x) : Bnd (2 ^ 63) l := fun q hq => Nat.lt_of_lt_of_le (h.1 q hq) (by decide)
def ofB (b : Nat → BitVec 8) : Fp := ofN (numB b 32 % 2 ^ 255)
theorem rp_read (b : Nat → BitVec 8) : Rp (readF b) (ofB b) := ⟨fun q hq => Nat.lt_of_lt_of_le (readF_bnd b q hq) (by decide), by rw [readF_val]; rfl⟩
theorem rp_mul {a b : F5} {x y : Fp} (ha : Rp a x) (hb : Rp b y) : Rp (mulF a b) (x * y) := by
  obtain ⟨h1, h2⟩ := mul_num (ha.1.mono tt_le) (hb.1.mono tt_le)
  refine ⟨h2, ?_⟩
  rw [ofN_mod h1, ofN_mul, ha.2, hb.2]
def smallF (n : BitVec 32) : F5 := upd (fun _ => 0#64) 0 (n.setWidth 64)
theorem small_ok (n : BitVec 32) : field_Small n (smallF n) := rfl
theorem small_at (n : BitVec 32) (q : Nat) : (smallF n q).toNat = if q = 0 then n.toNat else 0 := by
  unfold smallF
  rw [upd_at]
  by_cases h : q = 0
  · rw [if_pos h, if_pos h, BitVec.toNat_setWidth, Nat.mod_eq_of_lt (by have := n.isLt; omega)]
  · rw [if_neg h, if_neg h]; exact BitVec.toNat_ofNat 0 64
theorem rp_small (n : BitVec 32) : Rp (smallF n) (ofN n.toNat) := by
  have h := n.isLt
  refine ⟨fun q _ => ?_, ?_⟩
  · rw [small_at]; unfold Tt; split <;> omega
  · unfold val
    rw [small_at, small_at, small_at, small_at, small_at]
    simp
def zF : F5 := fun _ => 0#64
theorem rp_zero : Rp (fun _ => 0#64) 0 := by
  have e0 : (0#64 : BitVec 64).toNat = 0 := BitVec.toNat_ofNat 0 64
  refine ⟨fun q _ => by show (0#64 : BitVec 64).toNat < _; rw [e0]; decide, ?_⟩
  unfold val
  rw [e0]
  rfl
theorem rp_one : Rp (smallF 1#32) 1 := rp_small 1#32
theorem numB_congr' {b b' : Nat → BitVec 8} : ∀ n, (∀ q, q < n → b q = b' q) → numB b n = numB b' n
  | 0, _ => rfl
  | n + 1, h => by simp only [numB]; rw [numB_congr' n fun q hq => h q (by omega), h n (by omega)]
theorem byte_num (b : Nat → BitVec 8) {q : Nat} (hq : q < 32) : (b q).toNat = numB b 32 / 256 ^ q % 256 := by
  have h1 := numB_div b q (32 - q)
  rw [show q + (32 - q) = 32 by omega] at h1
  have h2 := numB_mod (fun j => b (q + j)) 1 (31 - q)
  rw [show 1 + (31 - q) = 32 - q by omega] at h2
  rw [h1, show (256 : Nat) = 256 ^ 1 by decide, h2]
  simp [numB]
theorem eqB_iffN {b b' : Nat → BitVec 8} : eqB 32 b b' = true ↔ numB b 32 = numB b' 32 := by
  constructor
  · intro h; exact numB_congr' 32 (eqB_iff.1 h)
  · intro h
    refine eqB_iff.2 fun q hq => ?_
    apply BitVec.eq_of_toNat_eq
    rw [byte_num b hq, byte_num b' hq, h]
theorem rp_bytes {a : F5} {x : Fp} (h : Rp a x) : numB (bytesF a) 32 = x.val := by
  rw [bytes_num a h.b63, ← h.2]; rfl
theorem rp_eq {a b : F5} {x y : Fp} (ha : Rp a x) (hb : Rp b y) : eqB 32 (bytesF a) (bytesF b) = decide (x = y) := by
  rw [Bool.eq_iff_iff, eqB_iffN, rp_bytes ha, rp_bytes hb, decide_eq_true_iff]
  exact ⟨fun h => Fin.ext h, fun h => congrArg Fin.val h⟩
theorem eq_ok {a b : F5} {x y : Fp} (ha : Rp a x) (hb : Rp b y) : field_Elem_Equal a b (decide (x = y)) := by
  rw [← rp_eq ha hb]
  exact ⟨_, bytes_ok a, _, bytes_ok b, rfl⟩

/-! ### powers -/
def bitN (n : Nat → BitVec 8) (t : Nat) : Prop := ((n (t / 8)) >>> (t % 8)) &&& 1#8 = 1#8
instance (n : Nat → BitVec 8) (t : Nat) : Decidable (bitN n t) := inferInstanceAs (Decidable (_ = _))
def powF (a : F5) (n : Nat → BitVec 8) : Nat → F5
  | 0 => smallF 1#32
  | i + 1 => if bitN n (255 - i) then mulF (mulF (powF a n i) (powF a n i)) a else mulF (powF a n i) (powF a n i)
theorem bitN_iff (n : Nat → BitVec 8) {t : Nat} (ht : t < 256) : bitN n t ↔ numB n 32 / 2 ^ t % 2 = 1 := by
  have h := byte_num n (q := t / 8) (by omega)
  have h1 : (((n (t / 8)) >>> (t % 8)) &&& 1#8).toNat = (n (t / 8)).toNat / 2 ^ (t % 8) % 2 := by
    rw [BitVec.toNat_and, BitVec.toNat_ushiftRight, Nat.shiftRight_eq_div_pow, show (1#8 : BitVec 8).toNat = 2 ^ 1 - 1 by decide, Nat.and_two_pow_sub_one_eq_mod]
  have h2 : (n (t / 8)).toNat / 2 ^ (t % 8) % 2 = numB n 32 / 2 ^ t % 2 := by
    rw [h]
    have e1 : ∀ M s, s < 8 → M % 256 / 2 ^ s % 2 = M / 2 ^ s % 2 := fun M s hs => by
      rcases (by omega : s = 0 ∨ s = 1 ∨ s = 2 ∨ s = 3 ∨ s = 4 ∨ s = 5 ∨ s = 6 ∨ s = 7) with rfl | rfl | rfl | rfl | rfl | rfl | rfl | rfl <;> omega
    rw [e1 _ _ (Nat.mod_lt _ (by decide)), Nat.div_div_eq_div_mul, show (256 : Nat) = 2 ^ 8 by decide, ← Nat.pow_mul, ← Nat.pow_add, Nat.div_add_mod]
  unfold bitN
  constructor
  · intro h3; rw [← h2, ← h1, h3]; rfl
  · intro h3
    apply BitVec.eq_of_toNat_eq
    rw [h1, h2, h3]; rfl
theorem pow_ok (a : F5) (n : Nat → BitVec 8) : field_Elem_Pow a n (powF a n 256) := by
  refine ⟨_, small_ok _, powF a n 256, ?_, rfl⟩
  have h := Iter.count (step := field_Elem_Pow_l0 a n) (x := powF a n 256) (fun i => ((255 : Int) - (i : Int), powF a n i)) 256 (fun i hi => by
    obtain ⟨k, hk, hk2⟩ : ∃ k : Nat, (255 : Int) - (i : Int) = (k : Int) ∧ k = 255 - i := ⟨255 - i, by omega, rfl⟩
    have d1 : ((k : Int).tdiv 8) = ((k / 8 : Nat) : Int) := by rw [Int.tdiv_eq_ediv_of_nonneg (by omega)]; omega
    have d2 : ((k : Int).tmod 8) = ((k % 8 : Nat) : Int) := by rw [Int.tmod_eq_emod_of_nonneg (by omega)]; omega
    have hk8 : k / 8 < 32 := by omega
    unfold field_Elem_Pow_l0; dsimp only
    rw [hk, d1, d2, if_pos (by omega)]
    refine ⟨_, sq_ok _, by omega, by omega, by omega, ?_⟩
    rw [Int.toNat_natCast, Int.toNat_natCast]
    have e : (255 : Int) - ((i + 1 : Nat) : Int) = (k : Int) - 1 := by omega
    rw [e]
    by_cases hb : bitN n k
    · rw [if_pos (show ((n (k / 8)) >>> (k % 8)) &&& 1#8 = 1#8 from hb)]
      refine ⟨_, mul_ok _ _, by omega, ?_⟩
      have e4 : powF a n (i + 1) = mulF (mulF (powF a n i) (powF a n i)) a := by
        show (if bitN n (255 - i) then _ else _) = _
        rw [← hk2, if_pos hb]
      rw [e4]
    · rw [if_neg (show ¬ ((n (k / 8)) >>> (k % 8)) &&& 1#8 = 1#8 from hb)]
      refine ⟨by omega, ?_⟩
      have e4 : powF a n (i + 1) = mulF (powF a n i) (powF a n i) := by
        show (if bitN n (255 - i) then _ else _) = _
        rw [← hk2, if_neg hb]
      rw [e4]) (by
    unfold field_Elem_Pow_l0; dsimp only
    rw [if_neg (by omega)])
  exact h
theorem fpow_add (x : Fp) (m n : Nat) : x ^ (m + n) = x ^ m * x ^ n := by grind
theorem fpow_mul (x : Fp) (m : Nat) : ∀ n, x ^ (m * n) = (x ^ m) ^ n
  | 0 => by rw [Nat.mul_zero]; grind
  | n + 1 => by rw [Nat.mul_succ, fpow_add, fpow_mul x m n]; grind
theorem fmul_pow (x y : Fp) : ∀ n : Nat, (x * y) ^ n = x ^ n * y ^ n
  | 0 => by grind
  | n + 1 => by
    have := fmul_pow x y n
    have e1 : (x * y) ^ (n + 1) = (x * y) ^ n * (x * y) := by grind
    rw [e1, this]; grind
theorem fpow_zero (x : Fp) : x ^ 0 = 1 := by grind
theorem rp_pow {a : F5} {x : Fp} (ha : Rp a x) (n : Nat → BitVec 8) : ∀ i, i ≤ 256 → Rp (powF a n i) (x ^ (numB n 32 / 2 ^ (256 - i)))
  | 0, _ => by
    have h := numB_lt n 32
    rw [Nat.div_eq_of_lt (by rw [show (2 : Nat) ^ (256 - 0) = 256 ^ 32 by decide +kernel]; exact h), fpow_zero]
    exact rp_one
  | i + 1, hi => by
    have ih := rp_pow ha n i (by omega)
    have hb := bitN_iff n (t := 255 - i) (by omega)
    have e : 256 - (i + 1) = 255 - i := by omega
    have e2 : 256 - i = (255 - i) + 1 := by omega
    have hd : numB n 32 / 2 ^ (256 - i) = numB n 32 / 2 ^ (255 - i) / 2 := by rw [e2, Nat.pow_succ, Nat.div_div_eq_div_mul]
    rw [hd] at ih
    rw [e]
    generalize numB n 32 / 2 ^ (255 - i) = M at ih hb ⊢
    show Rp (if bitN n (255 - i) then _ else _) _
    by_cases h : bitN n (255 - i)
    · rw [if_pos h]
      have h1 := hb.1 h
      have := rp_mul (rp_mul ih ih) ha
      have e3 : x ^ (M / 2) * x ^ (M / 2) * x = x ^ M := by
        rw [← fpow_add, show M = (M / 2 + M / 2) + 1 by omega, fpow_add x _ 1, show (M / 2 + M / 2 + 1) / 2 = M / 2 by omega]
        grind
      rw [e3] at this
      exact this
    · rw [if_neg h]
      have h1 : M % 2 = 0 := by
        have : ¬ M % 2 = 1 := fun h2 => h (hb.2 h2)
        omega
      have := rp_mul ih ih
      rw [← fpow_add, show M / 2 + M / 2 = M by omega] at this
      exact this
theorem pow_rp {a : F5} {x : Fp} (ha : Rp a x) (n : Nat → BitVec 8) : ∃ r, field_Elem_Pow a n r ∧ Rp r (x ^ numB n 32) := by
  refine ⟨_, pow_ok a n, ?_⟩
  have := rp_pow ha n 256 (Nat.le_refl _)
  rw [show 256 - 256 = 0 by omega, Nat.pow_zero, Nat.div_one] at this
  exact this
theorem mul_rp {a b : F5} {x y : Fp} (ha : Rp a x) (hb : Rp b y) : ∃ r, field_Elem_Mul a b r ∧ Rp r (x * y) := ⟨_, mul_ok a b, rp_mul ha hb⟩

/-! ### inverses; Fermat -/
theorem prime255 : Num.PrimeN p255 := Num.prime255
theorem f_fermat {x : Fp} (h : x ≠ 0) : x ^ (p255 - 1) = 1 := by
  have h1 : ¬ p255 ∣ x.val := fun hd => h (Fin.ext (by
    have := x.isLt
    rcases Nat.eq_zero_or_pos x.val with h0 | h0
    · exact h0
    · exact absurd (Nat.le_of_dvd h0 hd) (by omega)))
  have h2 := Num.fermat prime255 h1
  have h3 : ofN (x.val ^ (p255 - 1)) = ofN 1 := ofN_eq.2 (by rw [h2, Nat.mod_eq_of_lt (by decide)])
  rw [ofN_pow, ofN_self, ofN_one] at h3
  exact h3
theorem f_dom {x y : Fp} (h : x * y = 0) : x = 0 ∨ y = 0 := by
  by_cases hx : x = 0
  · exact .inl hx
  · refine .inr ?_
    have h1 := f_fermat hx
    have h2 : x ^ (p255 - 1) = x * x ^ (p255 - 2) := by
      rw [show p255 - 1 = (p255 - 2) + 1 by decide, fpow_add]
      grind
    rw [h2] at h1
    grind
theorem one_ne : (1 : Fp) ≠ 0 := by
  intro h
  have := congrArg Fin.val h
  exact absurd this (by decide +kernel)
end Go.Proofs.YtjblfkmmbpcpaaaDoor
