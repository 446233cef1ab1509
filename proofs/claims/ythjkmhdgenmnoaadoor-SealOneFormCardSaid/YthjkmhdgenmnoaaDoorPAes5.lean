/-
  PLAIN LAW, AES PART 5 (own work): the counter is a number of 128 bits; a stream, byte by byte.
-/
import Derived.Test.YthjkmhdgenmnoaaDoorPAes4
namespace Go.Proofs.YthjkmhdgenmnoaaDoor
set_option linter.unusedSimpArgs false
set_option linter.unusedVariables false
set_option linter.unusedSectionVars false
open Go Go.LW

/-! ### digits to the base of 256, the lowest first -/
def valD : List Nat → Nat
  | [] => 0
  | b :: bs => b + 256 * valD bs
def addD : List Nat → Nat → Nat → List Nat
  | [], _, _ => []
  | b :: bs, n, c => (b + n % 256 + c) % 256 :: addD bs (n / 256) ((b + n % 256 + c) / 256)
theorem addD_length : ∀ (bs : List Nat) (n c : Nat), (addD bs n c).length = bs.length
  | [], _, _ => rfl
  | b :: bs, n, c => by simp only [addD, List.length_cons, addD_length bs]
theorem addD_val : ∀ (bs : List Nat) (n c : Nat), valD (addD bs n c) = (valD bs + n + c) % 256 ^ bs.length
  | [], n, c => by simp [addD, valD, Nat.mod_one]
  | b :: bs, n, c => by
    simp only [addD, valD, List.length_cons]
    rw [addD_val bs, Nat.pow_succ, Nat.mul_comm (256 ^ bs.length) 256, Nat.mod_mul]
    generalize hs : b + n % 256 + c = s
    have h1 : b + 256 * valD bs + n + c = s + 256 * (valD bs + n / 256) := by omega
    rw [h1]
    have h2 : (s + 256 * (valD bs + n / 256)) % 256 = s % 256 := by omega
    have h3 : (s + 256 * (valD bs + n / 256)) / 256 = valD bs + n / 256 + s / 256 := by omega
    rw [h2, h3]
theorem addD_lt : ∀ (bs : List Nat) (n c : Nat), ∀ x ∈ addD bs n c, x < 256
  | [], _, _, x, hx => by cases hx
  | b :: bs, n, c, x, hx => by
    simp only [addD, List.mem_cons] at hx
    rcases hx with rfl | hx
    · omega
    · exact addD_lt bs _ _ x hx
theorem valD_inj : ∀ {bs cs : List Nat}, bs.length = cs.length → (∀ x ∈ bs, x < 256) → (∀ x ∈ cs, x < 256) → valD bs = valD cs → bs = cs
  | [], [], _, _, _, _ => rfl
  | [], _ :: _, h, _, _, _ => by cases h
  | _ :: _, [], h, _, _, _ => by cases h
  | b :: bs, c :: cs, h, hb, hc, hv => by
    have h1 := hb b List.mem_cons_self
    have h2 := hc c List.mem_cons_self
    simp only [valD] at hv
    have h3 : b = c := by omega
    have h4 : valD bs = valD cs := by omega
    rw [h3, valD_inj (by simpa using h) (fun x hx => hb x (List.mem_cons_of_mem _ hx)) (fun x hx => hc x (List.mem_cons_of_mem _ hx)) h4]
/-- the digits of a block from place j on -/
def digs (s : F8) : Nat → List Nat
  | 0 => []
  | n + 1 => (s (15 - (15 - n))).toNat :: digs s n
theorem digs_length (s : F8) : ∀ n, (digs s n).length = n
  | 0 => rfl
  | n + 1 => by simp [digs, digs_length s n]
theorem digs_lt (s : F8) : ∀ n, ∀ x ∈ digs s n, x < 256
  | 0, x, hx => by cases hx
  | n + 1, x, hx => by
    simp only [digs, List.mem_cons] at hx
    rcases hx with rfl | hx
    · exact (s _).isLt
    · exact digs_lt s n x hx
theorem digs_eq {s t : F8} : ∀ n, n ≤ 16 → digs s n = digs t n → ∀ q, q < n → s q = t q
  | 0, _, _, q, hq => absurd hq (Nat.not_lt_zero q)
  | n + 1, hn, h, q, hq => by
    simp only [digs, List.cons.injEq] at h
    rw [show 15 - (15 - n) = n by omega] at h
    by_cases hqn : q = n
    · subst hqn; exact BitVec.eq_of_toNat_eq h.1
    · exact digs_eq n (by omega) h.2 q (by omega)
theorem digs_congr {s t : F8} : ∀ n, n ≤ 16 → (∀ q, q < n → s q = t q) → digs s n = digs t n
  | 0, _, _ => rfl
  | n + 1, hn, h => by
    simp only [digs]
    rw [show 15 - (15 - n) = n by omega, h n (by omega), digs_congr n (by omega) fun q hq => h q (by omega)]
/-- the number that a counter is -/
def num (s : F8) : Nat := valD (digs s 16)
theorem num_inj {s t : F8} (h : num s = num t) : E16 s t := digs_eq 16 (Nat.le_refl _) (valD_inj (by rw [digs_length, digs_length]) (digs_lt _ _) (digs_lt _ _) h)
theorem num_congr {s t : F8} (h : E16 s t) : num s = num t := by unfold num; rw [digs_congr 16 (Nat.le_refl _) h]
/-- the rounds of Next, from round i on: the digits that are left, the number's rest, the carry -/
theorem next_digs (s : F8) (n : BitVec 64) : ∀ d i, i + d = 16 → ∀ m, m = nxAt s n i → (∀ q, q < d → m.2.2 q = s q) → m.2.1.toNat ≤ 1 →
    digs (nxAt s n 16).2.2 d = addD (digs s d) m.1.toNat m.2.1.toNat ∧ ∀ q, d ≤ q → (nxAt s n 16).2.2 q = m.2.2 q := by
  intro d
  induction d with
  | zero =>
    intro i hi m hm _ _
    obtain rfl : i = 16 := by omega
    subst hm
    exact ⟨rfl, fun q _ => rfl⟩
  | succ d ih =>
    intro i hi m hm hs hc
    have h15 : 15 - i = d := by omega
    have hm1 : nxAt s n (i + 1) = (m.1 >>> 8, (((m.2.2 (15 - i)).setWidth 64 + (m.1 &&& 255#64)) + m.2.1) >>> 8, upd m.2.2 (15 - i) ((((m.2.2 (15 - i)).setWidth 64 + (m.1 &&& 255#64)) + m.2.1).setWidth 8)) := by
      rw [hm]; rfl
    have hb := (m.2.2 d).isLt
    have h255 : (m.1 &&& 255#64).toNat = m.1.toNat % 256 := by
      rw [BitVec.toNat_and]
      exact Nat.and_two_pow_sub_one_eq_mod m.1.toNat 8
    have hsum : (((m.2.2 (15 - i)).setWidth 64 + (m.1 &&& 255#64)) + m.2.1).toNat = (m.2.2 d).toNat + m.1.toNat % 256 + m.2.1.toNat := by
      rw [h15, BitVec.toNat_add, BitVec.toNat_add, h255, BitVec.toNat_setWidth]
      omega
    obtain ⟨h1, h2⟩ := ih (i + 1) (by omega) _ rfl (fun q hq => by
      rw [hm1]
      show upd m.2.2 (15 - i) _ q = _
      rw [upd_ne _ _ _ _ (by omega)]; exact hs q (by omega)) (by
      rw [hm1]
      show ((((m.2.2 (15 - i)).setWidth 64 + (m.1 &&& 255#64)) + m.2.1) >>> 8).toNat ≤ 1
      rw [BitVec.toNat_ushiftRight, hsum, Nat.shiftRight_eq_div_pow]; omega)
    rw [hm1] at h1 h2
    have hd := h2 d (Nat.le_refl _)
    have e1 : (upd m.2.2 (15 - i) ((((m.2.2 (15 - i)).setWidth 64 + (m.1 &&& 255#64)) + m.2.1).setWidth 8)) d = ((((m.2.2 (15 - i)).setWidth 64 + (m.1 &&& 255#64)) + m.2.1).setWidth 8) := by
      rw [h15, upd_same]
    refine ⟨?_, fun q hq => ?_⟩
    · simp only [digs, addD]
      rw [show 15 - (15 - d) = d by omega, hd, h1]
      dsimp only
      rw [e1]
      congr 1
      · rw [BitVec.toNat_setWidth, hsum, hs d (by omega)]
      · congr 1
        · rw [BitVec.toNat_ushiftRight, Nat.shiftRight_eq_div_pow]
        · rw [BitVec.toNat_ushiftRight, hsum, Nat.shiftRight_eq_div_pow, hs d (by omega)]
    · rw [h2 q (by omega)]
      show upd m.2.2 (15 - i) _ q = _
      rw [upd_ne _ _ _ _ (by omega)]
theorem num_next (s : F8) (n : BitVec 64) : num (nextF s n) = (num s + n.toNat) % 2 ^ 128 := by
  obtain ⟨h, _⟩ := next_digs s n 16 0 (by omega) (n, 0#64, s) rfl (fun _ _ => rfl) (Nat.zero_le _)
  have h2 := addD_val (digs s 16) n.toNat (0#64 : BitVec 64).toNat
  rw [digs_length, show (256 : Nat) ^ 16 = 2 ^ 128 by decide +kernel, show (0#64 : BitVec 64).toNat = 0 by decide, Nat.add_zero] at h2
  unfold num nextF
  rw [h]
  exact h2
theorem num_lt (s : F8) : num s < 2 ^ 128 := by
  have key : ∀ bs : List Nat, (∀ x ∈ bs, x < 256) → valD bs < 256 ^ bs.length := by
    intro bs
    induction bs with
    | nil => intro _; simp [valD]
    | cons b bs ih =>
      intro h
      have h1 := h b List.mem_cons_self
      have h2 := ih fun x hx => h x (List.mem_cons_of_mem _ hx)
      simp only [valD, List.length_cons, Nat.pow_succ]
      omega
  have := key (digs s 16) (digs_lt s 16)
  rw [digs_length, show (256 : Nat) ^ 16 = 2 ^ 128 by decide +kernel] at this
  unfold num
  exact this
theorem nextF_E {s t : F8} (h : E16 s t) (n : BitVec 64) : E16 (nextF s n) (nextF t n) := num_inj (by rw [num_next, num_next, num_congr h])

/-! ### a stream, byte by byte -/
def ctr (first : F8) : Nat → F8
  | 0 => first
  | i + 1 => nextF (ctr first i) 1#64
theorem num_ctr (first : F8) : ∀ i, num (ctr first i) = (num first + i) % 2 ^ 128
  | 0 => by
    have h := Nat.mod_eq_of_lt (num_lt first)
    rw [Nat.add_zero, h]
    unfold ctr
    exact Eq.refl _
  | i + 1 => by
    unfold ctr
    rw [num_next, num_ctr first i, show (1#64 : BitVec 64).toNat = 1 by decide]
    generalize num first = m
    omega
theorem stAt_ctr (k box two first : F8) (text : List Byte) : ∀ i, (stAt k box two first text i).2 = ctr first i
  | 0 => rfl
  | i + 1 => by unfold stAt ctr; rw [stAt_ctr k box two first text i]
theorem lit_set {X : List Byte} {i q : Nat} {v : Byte} (h : i < X.length) : lit (X.set i v) q = if q = i then v else lit X q := by
  unfold lit
  rw [List.getD_eq_getElem?_getD, List.getD_eq_getElem?_getD]
  by_cases hq : q = i
  · subst hq; rw [if_pos rfl, List.getElem?_set_self h]; rfl
  · rw [if_neg hq, List.getElem?_set_ne (Ne.symm hq)]
theorem inAt_at {out : List Byte} {a : Nat} {x : F8} : ∀ t, a + t ≤ out.length → ∀ q, lit (inAt out a x t) q = if a ≤ q ∧ q < a + t then lit out q ^^^ x (q - a) else lit out q
  | 0, _, q => by rw [if_neg (by omega)]; rfl
  | t + 1, h, q => by
    unfold inAt
    rw [lit_set (by rw [inAt_length]; omega), inAt_at t (by omega), inAt_at t (by omega)]
    by_cases hq : q = a + t
    · subst hq
      rw [if_pos rfl, if_neg (by omega), if_pos (by omega), Nat.add_sub_cancel_left]
    · rw [if_neg hq]
      by_cases h2 : a ≤ q ∧ q < a + t
      · rw [if_pos h2, if_pos (by omega)]
      · rw [if_neg h2, if_neg (by omega)]
theorem stAt_length (k box two first : F8) (text : List Byte) : ∀ i, (stAt k box two first text i).1.length = text.length
  | 0 => rfl
  | i + 1 => by unfold stAt; rw [inAt_length, stAt_length k box two first text i]
theorem stAt_at (k box two first : F8) (text : List Byte) : ∀ i, 16 * i < text.length + 16 → ∀ q, q < text.length → lit (stAt k box two first text i).1 q = if q < 16 * i then lit text q ^^^ encF k box two (ctr first (q / 16)) (q % 16) else lit text q
  | 0, _, q, _ => rfl
  | i + 1, h, q, hq => by
    unfold stAt
    rw [inAt_at _ (by rw [stAt_length]; omega), stAt_ctr, stAt_at k box two first text i (by omega) q hq]
    by_cases h1 : q < 16 * i
    · rw [if_neg (by omega), if_pos h1, if_pos (by omega)]
    · by_cases h2 : q < 16 * (i + 1)
      · rw [if_pos (by omega), if_neg h1, if_pos h2, show q / 16 = i by omega, show q - 16 * i = q % 16 by omega]
      · rw [if_neg (by omega), if_neg h1, if_neg h2]
theorem strF_length (k box two first : F8) (text : List Byte) : (strF k box two first text).length = text.length := stAt_length _ _ _ _ _ _
theorem strF_at (k box two first : F8) (text : List Byte) {q : Nat} (hq : q < text.length) : lit (strF k box two first text) q = lit text q ^^^ encF k box two (ctr first (q / 16)) (q % 16) := by
  unfold strF
  rw [stAt_at k box two first text _ (by omega) q hq, if_pos (by omega)]
theorem list_ext {X Y : List Byte} (hl : X.length = Y.length) (h : ∀ q, q < X.length → lit X q = lit Y q) : X = Y := by
  rw [← lit_of X, ← lit_of Y, ← hl]
  exact List.map_congr_left fun q hq => h q (List.mem_range.1 hq)
theorem strF_twice (k box two first : F8) (text : List Byte) : strF k box two first (strF k box two first text) = text :=
  list_ext (by rw [strF_length, strF_length]) fun q hq => by
    rw [strF_length, strF_length] at hq
    rw [strF_at _ _ _ _ _ (by rw [strF_length]; exact hq), strF_at _ _ _ _ _ hq, BitVec.xor_assoc, BitVec.xor_self, BitVec.xor_zero]
end Go.Proofs.YthjkmhdgenmnoaaDoor
