/-
  PLAIN (own work): the padding as the law's own code makes it; parts.
-/
import Derived.Test.YtjdgbahjpdopbaaDoorShaM
import Derived.Test.YtjdgbahjpdopbaaDoorLw10
namespace Go.LW
set_option linter.unusedSimpArgs false
set_option linter.unusedVariables false
set_option linter.unusedSectionVars false

theorem SlV.sl {b o lo cap len : Nat} (h : cap ≠ lo) : SlV (if cap = lo then (some ⟨b, o, none⟩ : Option Addr) else (some ⟨b, o, none⟩ : Option Addr).map (·.add (lo * 1))) (some b) (o + lo) len := fun _ => ⟨b, rfl, by rw [if_neg h, Nat.mul_one]; simp [Addr.add_mid]⟩

theorem lenB_toNat {N : Nat} (h : N < 2305843009213693952) : (lenB N).toNat = 8 * N := by
  unfold lenB
  have h1 : (8#64).toNat = 8 := by decide
  have h2 : (BitVec.ofNat 64 N).toNat = N := by rw [BitVec.toNat_ofNat]; exact Nat.mod_eq_of_lt (by omega)
  rw [BitVec.toNat_mul, h1, h2]
  exact Nat.mod_eq_of_lt (by omega)
theorem lenB_byte {N : Nat} (h : N < 2305843009213693952) (s : Nat) : (lenB N >>> s).setWidth 8 = BitVec.ofNat 8 (8 * N / 2 ^ s) := by
  apply BitVec.eq_of_toNat_eq
  rw [BitVec.toNat_setWidth, BitVec.toNat_ushiftRight, lenB_toNat h, Nat.shiftRight_eq_div_pow, BitVec.toNat_ofNat]
theorem lit_len {N : Nat} (h : N ≤ 2000) : ∀ i, i < 8 → lit [0#8, 0#8, 0#8, 0#8, 0#8, BitVec.ofNat 8 (8 * N / 2 ^ 16), BitVec.ofNat 8 (8 * N / 2 ^ 8), BitVec.ofNat 8 (8 * N)] i = (lenB N >>> (56 - 8 * i)).setWidth 8 := fun i hi => by
  rw [lenB_byte (by omega)]
  have h0 : ∀ s, 24 ≤ s → 8 * N / 2 ^ s = 0 := fun s hs => Nat.div_eq_of_lt (Nat.lt_of_lt_of_le (show 8 * N < 2 ^ 24 by omega) (Nat.pow_le_pow_right (by omega) hs))
  rcases (by omega : i = 0 ∨ i = 1 ∨ i = 2 ∨ i = 3 ∨ i = 4 ∨ i = 5 ∨ i = 6 ∨ i = 7) with rfl | rfl | rfl | rfl | rfl | rfl | rfl | rfl
  · rw [h0 (56 - 8 * 0) (by decide)]; rfl
  · rw [h0 (56 - 8 * 1) (by decide)]; rfl
  · rw [h0 (56 - 8 * 2) (by decide)]; rfl
  · rw [h0 (56 - 8 * 3) (by decide)]; rfl
  · rw [h0 (56 - 8 * 4) (by decide)]; rfl
  · rfl
  · rfl
  · show BitVec.ofNat 8 (8 * N) = BitVec.ofNat 8 (8 * N / 2 ^ 0); rw [Nat.pow_zero, Nat.div_one]
theorem padf_end {M F : Nat → BitVec 8} {N : Nat} (h : N ≤ 2000) (hF : ∀ q, q < xlen N → F q = pad1 M N q) : ∀ q, q < xlen N + 8 → spl F (xlen N) 8 (lit [0#8, 0#8, 0#8, 0#8, 0#8, BitVec.ofNat 8 (8 * N / 2 ^ 16), BitVec.ofNat 8 (8 * N / 2 ^ 8), BitVec.ofNat 8 (8 * N)]) q = padf M N q := fun q hq => by
  unfold padf
  by_cases h1 : q < xlen N
  · rw [spl_out _ _ _ _ _ (by omega), if_pos h1, hF q h1]
  · rw [spl_in _ _ _ _ _ (by omega), if_neg h1, lit_len h _ (by omega)]
theorem xlen_mod (N : Nat) : (xlen N + 8) % 64 = 0 := by unfold xlen; omega
theorem xlen_le (N : Nat) : xlen N ≤ N + 64 ∧ N + 1 ≤ xlen N := by unfold xlen; omega

theorem catN_one (N : Nat) : catN (fun _ => N) 1 = N := Nat.zero_add N
theorem sha_one {KK H0 : Nat → BitVec 32} {M : Nat → BitVec 8} {N : Nat} : sha KK H0 (catM (fun _ => N) (fun _ => M) 1) (catN (fun _ => N) 1) = sha KK H0 M N := by
  rw [catN_one]
  refine sha_congr fun q hq => ?_
  show spl (fun _ => 0#8) 0 N M q = M q
  rw [spl_in _ _ _ _ _ (by omega), Nat.sub_zero]
theorem sha_of {KK H0 st : Nat → BitVec 32} {M : Nat → BitVec 8} {N i : Nat} (h : ∀ q, q < 8 → st q = hstN KK H0 (padf M N) i q) (hi : 64 * i = xlen N + 8) : ∀ q, q < 32 → sha KK H0 (catM (fun _ => N) (fun _ => M) 1) (catN (fun _ => N) 1) q = dig st q := fun q hq => by
  rw [sha_one]
  unfold sha
  rw [show (xlen N + 8) / 64 = i by omega, dig_congr h q hq]
end Go.LW
