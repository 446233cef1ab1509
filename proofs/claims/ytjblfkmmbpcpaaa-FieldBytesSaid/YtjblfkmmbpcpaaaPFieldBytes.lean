/-
  PLAIN LAW OF FieldBytes (own work): one form; the highest bit; what is from p on; Swap.
-/
import Derived.Test.YtjblfkmmbpcpaaaPField4
import Derived.Test.YtjblfkmmbpcpaaaRFieldBytes
namespace Go.Proofs.Ytjblfkmmbpcpaaa
set_option linter.unusedSimpArgs false
set_option linter.unusedVariables false
set_option linter.unusedSectionVars false
open Go Go.LW
set_option maxRecDepth 10000

theorem numB_congr {b b' : Nat → BitVec 8} : ∀ n, (∀ q, q < n → b q = b' q) → numB b n = numB b' n
  | 0, _ => rfl
  | n + 1, h => by simp only [numB]; rw [numB_congr n fun q hq => h q (by omega), h n (by omega)]
theorem numB_byte (b : Nat → BitVec 8) {q : Nat} (hq : q < 32) : (b q).toNat = numB b 32 / 256 ^ q % 256 := by
  have h1 := numB_div b q (32 - q)
  rw [show q + (32 - q) = 32 by omega] at h1
  have h2 := numB_mod (fun j => b (q + j)) 1 (31 - q)
  rw [show 1 + (31 - q) = 32 - q by omega] at h2
  rw [h1, show (256 : Nat) = 256 ^ 1 by decide, h2]
  simp [numB]
theorem numB_inj {b b' : Nat → BitVec 8} (h : numB b 32 = numB b' 32) : eqB 32 b b' = true := eqB_iff.2 fun q hq => by
  apply BitVec.eq_of_toNat_eq
  rw [numB_byte b hq, numB_byte b' hq, h]
theorem eqB_num {b b' : Nat → BitVec 8} : eqB 32 b b' = true ↔ numB b 32 = numB b' 32 := ⟨fun h => numB_congr 32 (eqB_iff.1 h), numB_inj⟩
theorem read63 (b : Nat → BitVec 8) : Bnd (2 ^ 63) (readF b) := fun q hq => Nat.lt_of_lt_of_le (readF_bnd b q hq) (by decide)
theorem bytes_read (b : Nat → BitVec 8) : numB (bytesF (readF b)) 32 = numB b 32 % 2 ^ 255 % p255 := by rw [bytes_num _ (read63 b), readF_val]
def fitF (b : Nat → BitVec 8) : Bool := eqB 32 (bytesF (readF b)) b
theorem fits_ok (b : Nat → BitVec 8) : field_Fits b (fitF b) := ⟨_, read_ok b, _, bytes_ok _, rfl⟩
theorem p_lt : p255 < 2 ^ 255 := by decide
theorem fit_iff (b : Nat → BitVec 8) : fitF b = true ↔ numB b 32 < p255 := by
  unfold fitF
  rw [eqB_num, bytes_read]
  have := p_lt
  constructor
  · intro h; rw [← h]; exact Nat.mod_lt _ (by decide)
  · intro h; rw [Nat.mod_eq_of_lt (show numB b 32 < 2 ^ 255 by omega), Nat.mod_eq_of_lt h]
theorem equal_ok (a b : F5) : field_Elem_Equal a b (eqB 32 (bytesF a) (bytesF b)) := ⟨_, bytes_ok a, _, bytes_ok b, rfl⟩
theorem eqB_self8 (b : Nat → BitVec 8) : eqB 32 b b = true := eqB_iff.2 fun _ _ => rfl

/-! ### the prime's bytes -/
def primA (n : BitVec 8) (i : Nat) : Nat → BitVec 8 := fun q => if q = 0 then 237#8 - n else if q < i then 255#8 else 0#8
def primF (n : BitVec 8) : Nat → BitVec 8 := upd (primA n 32) 31 127#8
theorem prime_ok (n : BitVec 8) : lethelaw06_prime n (primF n) := by
  refine ⟨primA n 32, ?_, rfl⟩
  have e : upd (fun _ => 0#8) 0 (237#8 - n) = primA n 1 := by
    funext q
    rw [upd_at]
    unfold primA
    by_cases h : q = 0
    · rw [if_pos h, if_pos h]
    · rw [if_neg h, if_neg h, if_neg (by omega)]
  rw [e]
  refine Iter.count (fun i => (i + 1, primA n (i + 1))) 31 (fun i hi => ?_) ?_
  · unfold lethelaw06_prime_l0; dsimp only
    rw [if_pos (by omega)]
    have : upd (primA n (i + 1)) (i + 1) 255#8 = primA n (i + 1 + 1) := by
      funext q
      rw [upd_at]
      unfold primA
      by_cases h : q = i + 1
      · rw [if_pos h, if_neg (by omega), if_pos (by omega)]
      · rw [if_neg h]
        by_cases h0 : q = 0
        · rw [if_pos h0, if_pos h0]
        · rw [if_neg h0, if_neg h0]
          by_cases h1 : q < i + 1
          · rw [if_pos h1, if_pos (by omega)]
          · rw [if_neg h1, if_neg (by omega)]
    rw [this]
  · unfold lethelaw06_prime_l0; dsimp only
    rw [if_neg (by omega)]
theorem first_num (b : Nat → BitVec 8) (h : ∀ q, 0 < q → q < 32 → b q = if q = 31 then 127#8 else 255#8) : numB b 32 + 237 = (b 0).toNat + p255 := by
  have h1 := numB_split b 1 31
  have h2 : numB (fun q => b (1 + q)) 31 = numB (fun q => if q = 30 then 127#8 else 255#8) 31 := numB_congr 31 fun q hq => by
    show b (1 + q) = _
    rw [h (1 + q) (by omega) (by omega)]
    by_cases e : q = 30
    · rw [if_pos (by omega), if_pos e]
    · rw [if_neg (by omega), if_neg e]
  have h3 : 256 * numB (fun q => if q = 30 then 127#8 else 255#8) 31 + 237 = p255 := by decide +kernel
  have h4 : numB b 1 = (b 0).toNat := by simp [numB]
  rw [show 1 + 31 = 32 by decide, h2, h4, Nat.pow_one] at h1
  omega
theorem primF_at (n : BitVec 8) {q : Nat} (h0 : 0 < q) (hq : q < 32) : primF n q = if q = 31 then 127#8 else 255#8 := by
  unfold primF primA
  rw [upd_at]
  by_cases h : q = 31
  · rw [if_pos h, if_pos h]
  · rw [if_neg h, if_neg h, if_neg (by omega), if_pos hq]
theorem fieldBytes_true (k : Nat → BitVec 8) (n : BitVec 8) (bit : Int) : lethelaw06_FieldBytes k n bit true := by
  have hp := p_lt
  have hc := bytes_read k
  have hcp : numB (bytesF (readF k)) 32 < p255 := by rw [hc]; exact Nat.mod_lt _ (by decide)
  refine ⟨_, read_ok k, _, bytes_ok _, _, fits_ok _, ?_⟩
  rw [if_pos ((fit_iff _).2 hcp)]
  have h31 := numB_byte (bytesF (readF k)) (q := 31) (by omega)
  rw [if_neg (by rw [h31, show (127#8 : BitVec 8).toNat = 127 by decide]; omega)]
  refine ⟨_, fits_ok k, ?_⟩
  rw [if_neg (by unfold fitF; simp)]
  refine ⟨_, read_ok _, _, equal_ok _ _, ?_⟩
  have e1 : eqB 32 (bytesF (readF (bytesF (readF k)))) (bytesF (readF k)) = true := (fit_iff _).2 hcp
  rw [if_pos e1]
  have hk31 := numB_byte k (q := 31) (by omega)
  have hlow := numB_congr (b := upd k 31 (k 31 ^^^ 128#8)) (b' := k) 31 (fun q hq => upd_ne _ _ _ _ (by omega))
  have hN : numB k 32 = numB k 31 + (k 31).toNat * 256 ^ 31 := rfl
  have hN' : numB (upd k 31 (k 31 ^^^ 128#8)) 32 = numB k 31 + (k 31 ^^^ 128#8).toNat * 256 ^ 31 := by
    show numB (upd k 31 (k 31 ^^^ 128#8)) 31 + (upd k 31 (k 31 ^^^ 128#8) 31).toNat * 256 ^ 31 = _
    rw [hlow, upd_same]
  have hx : ∀ x : BitVec 8, ((x ^^^ 128#8).toNat = x.toNat + 128 ∧ x.toNat < 128) ∨ (x.toNat = (x ^^^ 128#8).toNat + 128 ∧ (x ^^^ 128#8).toNat < 128) := by decide +kernel
  have hx1 := hx (k 31)
  have hlt := numB_lt k 31
  refine ⟨true, ⟨_, read_ok _, _, equal_ok _ _, ?_⟩, fun _ => ?_⟩
  · have e2 : eqB 32 (bytesF (readF (upd k 31 (k 31 ^^^ 128#8)))) (bytesF (readF k)) = true := by
      refine eqB_num.2 ?_
      have e22 : numB (upd k 31 (k 31 ^^^ 128#8)) 32 % 2 ^ 255 = numB k 32 % 2 ^ 255 := by rw [hN, hN']; clear hN hN' h31 hk31; generalize numB k 31 = a at hlt ⊢; generalize (k 31 ^^^ 128#8).toNat = x at hx1 ⊢; generalize (k 31).toNat = y at hx1 ⊢; omega
      rw [bytes_read, bytes_read, e22]
    rw [if_pos e2]
    refine ⟨_, fits_ok k, ?_⟩
    rcases Bool.eq_false_or_eq_true (fitF k) with hf | hf
    · rw [if_pos hf]
      refine ⟨_, fits_ok _, ?_⟩
      rw [if_neg]
      intro hf2
      have g1 := (fit_iff _).1 hf
      have g2 := (fit_iff _).1 hf2
      rw [hN] at g1
      rw [hN'] at g2
      clear hN hN' h31 hk31 hc hcp e1 e2
      generalize numB k 31 = a at *
      generalize (k 31 ^^^ 128#8).toNat = x at *
      generalize (k 31).toNat = y at *
      omega
    · rw [if_neg (by rw [hf]; decide)]
  · have hm : (n % 19#8).toNat < 19 := by rw [BitVec.toNat_umod]; exact Nat.mod_lt _ (by decide)
    generalize n % 19#8 = m at hm ⊢
    refine ⟨_, prime_ok 0#8, _, fits_ok _, ?_⟩
    have hq0 : primF 0#8 0 = 237#8 := rfl
    have n1 := first_num (upd (primF 0#8) 0 (primF 0#8 0 + m)) (fun q h0 hq => by rw [upd_ne _ _ _ _ (by omega)]; exact primF_at 0#8 h0 hq)
    rw [upd_same, hq0, BitVec.toNat_add, show (237#8 : BitVec 8).toNat = 237 by decide, Nat.mod_eq_of_lt (show 237 + m.toNat < 2 ^ 8 by omega)] at n1
    rw [if_neg (fun h => by have := (fit_iff _).1 h; rw [hq0] at this; omega)]
    refine ⟨_, read_ok _, _, bytes_ok _, ?_⟩
    have e3 : eqB 32 (bytesF (readF (upd (primF 0#8) 0 (primF 0#8 0 + m)))) (upd (fun _ => 0#8) 0 m) = true := by
      refine eqB_num.2 ?_
      rw [bytes_read, hq0]
      have z : numB (upd (fun _ => 0#8) 0 m) 32 = m.toNat := by
        have h1 := numB_split (upd (fun _ => 0#8) 0 m) 1 31
        have h2 : numB (fun q => upd (fun _ => 0#8) 0 m (1 + q)) 31 = numB (fun _ => 0#8) 31 := numB_congr 31 fun q hq => upd_ne _ _ _ _ (by omega)
        have h3 : numB (fun _ => 0#8) 31 = 0 := by decide +kernel
        rw [show 1 + 31 = 32 by decide, h2, h3] at h1
        rw [h1]; simp [numB, upd_same]
      rw [z]
      have hval : numB (upd (primF 0#8) 0 (237#8 + m)) 32 = p255 + m.toNat := by omega
      have hP : p255 = 57896044618658097711785492504343953926634992332820282019728792003956564819949 := by decide
      rw [hval, Nat.mod_eq_of_lt (show p255 + m.toNat < 2 ^ 255 by omega), Nat.add_mod_left, Nat.mod_eq_of_lt (by omega)]
    rw [if_pos e3]
    refine ⟨_, prime_ok _, _, fits_ok _, ?_⟩
    have n2 := first_num (primF (m + 1#8)) (fun q h0 hq => primF_at _ h0 hq)
    have hm1 : (primF (m + 1#8) 0).toNat < 237 := by
      show (237#8 - (m + 1#8)).toNat < 237
      rw [BitVec.toNat_sub, BitVec.toNat_add, show (237#8 : BitVec 8).toNat = 237 by decide, show (1#8 : BitVec 8).toNat = 1 by decide]
      omega
    rw [if_pos ((fit_iff _).2 (by omega))]
    refine ⟨_, ⟨_, rfl, rfl⟩, ?_⟩
    by_cases hb : bit % 2 = 1
    · refine ⟨_, _, by unfold field_Swap; rw [if_pos hb], ?_⟩
      rw [if_pos hb]
      refine ⟨_, equal_ok _ _, ?_⟩
      rw [if_pos (eqB_self8 _)]
      exact ⟨_, equal_ok _ _, (eqB_self8 _).symm⟩
    · refine ⟨_, _, by unfold field_Swap; rw [if_neg hb], ?_⟩
      rw [if_neg hb]
      refine ⟨_, equal_ok _ _, ?_⟩
      rw [if_pos (eqB_self8 _)]
      exact ⟨_, equal_ok _ _, (eqB_self8 _).symm⟩
end Go.Proofs.Ytjblfkmmbpcpaaa
