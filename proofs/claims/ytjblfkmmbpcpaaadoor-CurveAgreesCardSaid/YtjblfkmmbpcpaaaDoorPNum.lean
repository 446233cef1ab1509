/-
  PLAIN (own work), NUMBERS: primes, Fermat's theorem, Pocklington's test; 2^255 - 19 is prime.
-/
namespace Go.Proofs.YtjblfkmmbpcpaaaDoor.Num
set_option linter.unusedSimpArgs false
set_option linter.unusedVariables false
set_option linter.unusedSectionVars false

def PrimeN (p : Nat) : Prop := 2 ≤ p ∧ ∀ d, d ∣ p → d = 1 ∨ d = p
theorem PrimeN.dvd {p a b : Nat} (hp : PrimeN p) (h : p ∣ a * b) : p ∣ a ∨ p ∣ b := by
  rcases hp.2 _ (Nat.gcd_dvd_left p a) with h1 | h1
  · exact .inr (Nat.Coprime.dvd_of_dvd_mul_left (show Nat.Coprime p a from h1) h)
  · exact .inl (by rw [← h1]; exact Nat.gcd_dvd_right p a)
theorem PrimeN.pow {p a : Nat} (hp : PrimeN p) : ∀ n, p ∣ a ^ n → p ∣ a
  | 0, h => by
    have := Nat.le_of_dvd (show 0 < 1 by decide) (by simpa using h)
    have := hp.1
    omega
  | n + 1, h => by
    rw [Nat.pow_succ] at h
    rcases hp.dvd h with h | h
    · exact hp.pow n h
    · exact h
/-- a prime that divides -/
theorem exists_prime : ∀ n, 2 ≤ n → ∃ r, PrimeN r ∧ r ∣ n := by
  intro n
  induction n using Nat.strongRecOn with
  | _ n ih =>
    intro h2
    by_cases h : ∃ d, d ∣ n ∧ d ≠ 1 ∧ d ≠ n
    · obtain ⟨d, hd, h1, hn⟩ := h
      have hle := Nat.le_of_dvd (by omega) hd
      have h0 : d ≠ 0 := fun e => by subst e; have := Nat.eq_zero_of_zero_dvd hd; omega
      obtain ⟨r, hr, hrd⟩ := ih d (by omega) (by omega)
      exact ⟨r, hr, Nat.dvd_trans hrd hd⟩
    · refine ⟨n, ⟨h2, fun d hd => ?_⟩, Nat.dvd_refl n⟩
      by_cases h1 : d = 1
      · exact .inl h1
      · by_cases hn : d = n
        · exact .inr hn
        · exact absurd ⟨d, hd, h1, hn⟩ h
/-- a number that isn't prime has a prime below its root -/
theorem small_prime {n : Nat} (h2 : 2 ≤ n) (hn : ¬ PrimeN n) : ∃ r, PrimeN r ∧ r ∣ n ∧ r * r ≤ n := by
  by_cases h : ∃ d, d ∣ n ∧ d ≠ 1 ∧ d ≠ n
  · obtain ⟨d, ⟨e, he⟩, h1, hne⟩ := h
    have key : ∀ a b : Nat, n = a * b → a ≠ 1 → a ≤ b → ∃ r, PrimeN r ∧ r ∣ n ∧ r * r ≤ n := by
      intro a b hab ha hle
      have ha0 : a ≠ 0 := fun e0 => by subst e0; omega
      obtain ⟨r, hr, hrd⟩ := exists_prime a (by omega)
      have hra := Nat.le_of_dvd (by omega) hrd
      refine ⟨r, hr, Nat.dvd_trans hrd ⟨b, hab⟩, ?_⟩
      rw [hab]
      exact Nat.mul_le_mul hra (Nat.le_trans hra hle)
    rcases Nat.le_total d e with hle | hle
    · exact key d e he h1 hle
    · refine key e d (by rw [he, Nat.mul_comm]) (fun e1 => ?_) hle
      subst e1; exact hne (by omega)
  · exact absurd ⟨h2, fun d hd => by
      by_cases h1 : d = 1
      · exact .inl h1
      · by_cases hn : d = n
        · exact .inr hn
        · exact absurd ⟨d, hd, h1, hn⟩ h⟩ hn

/-! ### Fermat -/
def ch : Nat → Nat → Nat
  | _, 0 => 1
  | 0, _ + 1 => 0
  | n + 1, k + 1 => ch n k + ch n (k + 1)
theorem ch_zero (n : Nat) : ch n 0 = 1 := by cases n <;> rfl
theorem ch_above : ∀ n k, n < k → ch n k = 0
  | 0, k + 1, _ => rfl
  | n + 1, k + 1, h => by
    show ch n k + ch n (k + 1) = 0
    rw [ch_above n k (by omega), ch_above n (k + 1) (by omega)]
theorem ch_self : ∀ n, ch n n = 1
  | 0 => rfl
  | n + 1 => by
    show ch n n + ch n (n + 1) = 1
    rw [ch_self n, ch_above n (n + 1) (by omega)]
theorem ch_absorb : ∀ n k, (k + 1) * ch (n + 1) (k + 1) = (n + 1) * ch n k
  | 0, k => by
    show (k + 1) * (ch 0 k + ch 0 (k + 1)) = 1 * ch 0 k
    cases k with
    | zero => rfl
    | succ k => show (k + 1 + 1) * (0 + 0) = 1 * 0; omega
  | n + 1, k => by
    have ih := ch_absorb n k
    show (k + 1) * (ch (n + 1) k + ch (n + 1) (k + 1)) = (n + 1 + 1) * ch (n + 1) k
    rw [Nat.mul_add, ih]
    cases k with
    | zero => rw [ch_zero, ch_zero]; omega
    | succ j =>
      have ih2 := ch_absorb n j
      have e : ch (n + 1) (j + 1) = ch n j + ch n (j + 1) := rfl
      rw [Nat.add_mul (j + 1) 1, ih2, Nat.one_mul, Nat.add_mul (n + 1) 1 (ch (n + 1) (j + 1)), Nat.one_mul]
      rw [e, Nat.mul_add]
      omega
def bsum (n a : Nat) : Nat → Nat
  | 0 => 0
  | m + 1 => bsum n a m + ch n m * a ^ m
theorem bsum_step (n a : Nat) : ∀ m, bsum (n + 1) a (m + 1) = bsum n a (m + 1) + a * bsum n a m
  | 0 => by simp [bsum, ch_zero]
  | m + 1 => by
    have ih := bsum_step n a m
    show bsum (n + 1) a (m + 1) + (ch n m + ch n (m + 1)) * a ^ (m + 1) = (bsum n a (m + 1) + ch n (m + 1) * a ^ (m + 1)) + a * (bsum n a m + ch n m * a ^ m)
    rw [ih, Nat.add_mul, Nat.mul_add, Nat.pow_succ]
    have : a * (ch n m * a ^ m) = ch n m * (a ^ m * a) := by rw [Nat.mul_comm (a ^ m) a, Nat.mul_left_comm]
    rw [this]
    omega
theorem bsum_pow (a : Nat) : ∀ n, bsum n a (n + 1) = (a + 1) ^ n
  | 0 => by simp [bsum, ch_zero]
  | n + 1 => by
    rw [bsum_step n a (n + 1), bsum_pow a n]
    have : bsum n a (n + 1 + 1) = bsum n a (n + 1) := by
      show bsum n a (n + 1) + ch n (n + 1) * a ^ (n + 1) = _
      rw [ch_above n (n + 1) (by omega), Nat.zero_mul, Nat.add_zero]
    rw [this, bsum_pow a n, Nat.pow_succ, Nat.mul_add, Nat.mul_one, Nat.mul_comm a]
    omega
theorem ch_prime {p : Nat} (hp : PrimeN p) {k : Nat} (h0 : 0 < k) (hk : k < p) : p ∣ ch p k := by
  obtain ⟨j, rfl⟩ : ∃ j, k = j + 1 := ⟨k - 1, by omega⟩
  obtain ⟨n, rfl⟩ : ∃ n, p = n + 1 := ⟨p - 1, by omega⟩
  have h := ch_absorb n j
  have h1 : n + 1 ∣ (j + 1) * ch (n + 1) (j + 1) := ⟨_, h⟩
  rcases hp.dvd h1 with h2 | h2
  · exact absurd (Nat.le_of_dvd (by omega) h2) (by omega)
  · exact h2
theorem fresh {p : Nat} (hp : PrimeN p) (a : Nat) : (a + 1) ^ p % p = (a ^ p + 1) % p := by
  have key : ∀ m, m < p → bsum p a (m + 1) % p = 1 % p := by
    intro m
    induction m with
    | zero => intro _; simp [bsum, ch_zero]
    | succ m ih =>
      intro hm
      show (bsum p a (m + 1) + ch p (m + 1) * a ^ (m + 1)) % p = 1 % p
      obtain ⟨c, hc⟩ := ch_prime hp (show 0 < m + 1 by omega) hm
      rw [hc, Nat.mul_assoc, Nat.add_mul_mod_self_left]
      exact ih (by omega)
  rw [← bsum_pow a p]
  obtain ⟨n, rfl⟩ : ∃ n, p = n + 1 := ⟨p - 1, by have := hp.1; omega⟩
  show (bsum (n + 1) a (n + 1) + ch (n + 1) (n + 1) * a ^ (n + 1)) % (n + 1) = _
  rw [ch_self, Nat.one_mul, Nat.add_mod, key n (by omega), ← Nat.add_mod, Nat.add_comm]
theorem fermat_pow {p : Nat} (hp : PrimeN p) : ∀ a, a ^ p % p = a % p
  | 0 => by rw [Nat.zero_pow (by have := hp.1; omega)]
  | a + 1 => by
    rw [fresh hp, Nat.add_mod, fermat_pow hp a, ← Nat.add_mod]
theorem dvd_of_mod_eq {p a b : Nat} (hab : b ≤ a) (h : a % p = b % p) : p ∣ a - b := by
  refine ⟨a / p - b / p, ?_⟩
  have h1 := Nat.div_add_mod a p
  have h2 := Nat.div_add_mod b p
  have h3 : b / p ≤ a / p := Nat.div_le_div_right hab
  rw [Nat.mul_sub]
  omega
theorem mod_eq_of_dvd {p a b : Nat} (hab : b ≤ a) (h : p ∣ a - b) : a % p = b % p := by
  obtain ⟨c, hc⟩ := h
  have : a = b + p * c := by omega
  rw [this, Nat.add_mul_mod_self_left]
theorem fermat {p : Nat} (hp : PrimeN p) {a : Nat} (ha : ¬ p ∣ a) : a ^ (p - 1) % p = 1 := by
  have h2 := hp.1
  have ha0 : 0 < a := Nat.pos_of_ne_zero fun e => ha (by rw [e]; exact Nat.dvd_zero p)
  have h1 : a ^ p = a * a ^ (p - 1) := by
    obtain ⟨n, hn⟩ : ∃ n, p = n + 1 := ⟨p - 1, by omega⟩
    rw [show a ^ p = a ^ (p - 1 + 1) by rw [show p - 1 + 1 = p by omega], Nat.pow_succ, Nat.mul_comm]
  have hpos : 1 ≤ a ^ (p - 1) := Nat.pow_pos ha0
  have h3 : p ∣ a ^ p - a := dvd_of_mod_eq (by rw [h1]; exact Nat.le_mul_of_pos_right a hpos) (fermat_pow hp a)
  have h4 : a ^ p - a = a * (a ^ (p - 1) - 1) := by rw [Nat.mul_sub, Nat.mul_one, h1]
  rw [h4] at h3
  rcases hp.dvd h3 with h | h
  · exact absurd h ha
  · rw [mod_eq_of_dvd hpos h, Nat.mod_eq_of_lt (by omega)]

/-! ### powers modulo -/
def pm (N : Nat) : Nat → Nat → Nat → Nat
  | 0, _, _ => 1
  | f + 1, b, e => cond (Nat.beq (e % 2) 0) (pm N f (b * b % N) (e / 2)) (b * pm N f (b * b % N) (e / 2) % N)
theorem pm_spec (N : Nat) : ∀ f b e, e < 2 ^ f → pm N f b e % N = b ^ e % N
  | 0, b, e, h => by
    obtain rfl : e = 0 := by simpa using h
    simp [pm]
  | f + 1, b, e, h => by
    have hlt : e / 2 < 2 ^ f := by rw [Nat.pow_succ] at h; omega
    have ih := pm_spec N f (b * b % N) (e / 2) hlt
    have hsq : (b * b % N) ^ (e / 2) % N = b ^ (2 * (e / 2)) % N := by
      rw [← Nat.pow_mod, Nat.pow_mul, Nat.pow_two]
    unfold pm
    cases hb : Nat.beq (e % 2) 0 with
    | true =>
      have h0 : e % 2 = 0 := Nat.eq_of_beq_eq_true hb
      show pm N f (b * b % N) (e / 2) % N = _
      rw [ih, hsq, show 2 * (e / 2) = e by omega]
    | false =>
      have h0 : e % 2 ≠ 0 := Nat.ne_of_beq_eq_false hb
      show b * pm N f (b * b % N) (e / 2) % N % N = _
      rw [Nat.mod_mod, Nat.mul_mod, ih, hsq, ← Nat.mul_mod, show b ^ e = b * b ^ (2 * (e / 2)) by
        conv => lhs; rw [show e = 2 * (e / 2) + 1 by omega]
        rw [Nat.pow_succ, Nat.mul_comm]]

/-! ### orders -/
theorem pow_one_mul {r a m : Nat} (h : a ^ m % r = 1 % r) (k : Nat) : a ^ (m * k) % r = 1 % r := by
  rw [Nat.pow_mul, Nat.pow_mod, h, ← Nat.pow_mod, Nat.one_pow]
theorem pow_gcd {r a : Nat} (m n : Nat) : a ^ m % r = 1 % r → a ^ n % r = 1 % r → a ^ Nat.gcd m n % r = 1 % r := by
  induction m, n using Nat.gcd.induction with
  | H0 n => intro _ h; rw [Nat.gcd_zero_left]; exact h
  | H1 m n hm ih =>
    intro h1 h2
    rw [Nat.gcd_rec]
    refine ih ?_ h1
    have h3 : a ^ n = a ^ (m * (n / m)) * a ^ (n % m) := by rw [← Nat.pow_add, Nat.div_add_mod]
    rw [h3, Nat.mul_mod, pow_one_mul h1, ← Nat.mul_mod, Nat.one_mul] at h2
    exact h2
theorem order_dvd {N r a q : Nat} (hr : PrimeN r) (hrN : r ∣ N) (hq : PrimeN q) (hqN : q ∣ N - 1) (h1 : a ^ (N - 1) % N = 1 % N) (h2 : Nat.gcd (a ^ ((N - 1) / q) % N + (N - 1)) N = 1) (hN : 2 ≤ N) : q ∣ r - 1 := by
  have hr2 := hr.1
  have h1r : a ^ (N - 1) % r = 1 % r := by
    have : a ^ (N - 1) % N % r = 1 % N % r := by rw [h1]
    rw [Nat.mod_mod_of_dvd _ hrN, Nat.mod_mod_of_dvd _ hrN] at this
    exact this
  obtain ⟨M, hM⟩ := hqN
  have hq0 : 0 < q := by have := hq.1; omega
  have hMe : (N - 1) / q = M := by rw [hM, Nat.mul_div_cancel_left _ hq0]
  rw [hMe] at h2
  have hra : ¬ r ∣ a := fun h => by
    have h0 : a ^ (N - 1) % r = 0 := Nat.mod_eq_zero_of_dvd (Nat.dvd_trans h (by obtain ⟨k, hk⟩ : ∃ k, N - 1 = k + 1 := ⟨N - 2, by omega⟩; rw [hk, Nat.pow_succ]; exact Nat.dvd_mul_left _ _))
    rw [h0, Nat.mod_eq_of_lt (by omega)] at h1r
    cases h1r
  rcases hq.2 _ (Nat.gcd_dvd_left q (r - 1)) with hg | hg
  · exfalso
    have h3 : a ^ (r - 1) % r = 1 % r := by rw [fermat hr hra, Nat.mod_eq_of_lt (by omega)]
    have h4 := pow_gcd (N - 1) (r - 1) h1r h3
    have h5 : Nat.Coprime (Nat.gcd (N - 1) (r - 1)) q := by
      have : Nat.gcd (Nat.gcd (N - 1) (r - 1)) q ∣ Nat.gcd q (r - 1) := Nat.dvd_gcd (Nat.gcd_dvd_right _ _) (Nat.dvd_trans (Nat.gcd_dvd_left _ _) (Nat.gcd_dvd_right _ _))
      rw [hg] at this
      exact Nat.eq_one_of_dvd_one this
    have h6 : Nat.gcd (N - 1) (r - 1) ∣ M := h5.dvd_of_dvd_mul_left (by rw [← hM]; exact Nat.gcd_dvd_left _ _)
    obtain ⟨k, hk⟩ := h6
    have h7 : a ^ M % r = 1 % r := by rw [hk]; exact pow_one_mul h4 k
    have h8 : r ∣ a ^ M % N + (N - 1) := by
      refine Nat.dvd_of_mod_eq_zero ?_
      have e1 : (a ^ M % N) % r = 1 % r := by rw [Nat.mod_mod_of_dvd _ hrN]; exact h7
      rw [Nat.add_mod, e1, ← Nat.add_mod, show 1 + (N - 1) = N by omega]
      exact Nat.mod_eq_zero_of_dvd hrN
    have h9 : r ∣ 1 := by rw [← h2]; exact Nat.dvd_gcd h8 hrN
    have := Nat.le_of_dvd (by decide) h9
    omega
  · rw [← hg]; exact Nat.gcd_dvd_right _ _
/-- Pocklington, one prime -/
theorem pock1 {N a q f : Nat} (hq : PrimeN q) (hqN : q ∣ N - 1) (hf : N - 1 < 2 ^ f) (h1 : pm N f a (N - 1) = 1) (h2 : Nat.gcd (pm N f a ((N - 1) / q) % N + (N - 1)) N = 1) (hN : 2 ≤ N) (hF : N < q * q) : PrimeN N := by
  refine Classical.byContradiction fun hc => ?_
  obtain ⟨r, hr, hrN, hrr⟩ := small_prime hN hc
  have e1 : a ^ (N - 1) % N = 1 % N := by rw [← pm_spec N f a (N - 1) hf, h1]
  have hlt : (N - 1) / q < 2 ^ f := Nat.lt_of_le_of_lt (Nat.div_le_self _ _) hf
  rw [pm_spec N f a ((N - 1) / q) hlt] at h2
  have hd := order_dvd hr hrN hq hqN e1 h2 hN
  have hr2 := hr.1
  have hle := Nat.le_of_dvd (by omega) hd
  have : q * q ≤ r * r := Nat.mul_le_mul (by omega) (by omega)
  omega
/-- .. two -/
theorem pock2 {N a q q' f : Nat} (hq : PrimeN q) (hq' : PrimeN q') (hne : q ≠ q') (hqN : q ∣ N - 1) (hqN' : q' ∣ N - 1) (hf : N - 1 < 2 ^ f) (h1 : pm N f a (N - 1) = 1) (h2 : Nat.gcd (pm N f a ((N - 1) / q) % N + (N - 1)) N = 1) (h2' : Nat.gcd (pm N f a ((N - 1) / q') % N + (N - 1)) N = 1)
    (hN : 2 ≤ N) (hF : N < (q * q') * (q * q')) : PrimeN N := by
  refine Classical.byContradiction fun hc => ?_
  obtain ⟨r, hr, hrN, hrr⟩ := small_prime hN hc
  have e1 : a ^ (N - 1) % N = 1 % N := by rw [← pm_spec N f a (N - 1) hf, h1]
  have hlt : ∀ q, (N - 1) / q < 2 ^ f := fun q => Nat.lt_of_le_of_lt (Nat.div_le_self _ _) hf
  rw [pm_spec N f a _ (hlt q)] at h2
  rw [pm_spec N f a _ (hlt q')] at h2'
  have hd := order_dvd hr hrN hq hqN e1 h2 hN
  have hd' := order_dvd hr hrN hq' hqN' e1 h2' hN
  have hr2 := hr.1
  have hco : Nat.Coprime q q' := by
    rcases hq.2 _ (Nat.gcd_dvd_left q q') with h | h
    · exact h
    · rcases hq'.2 _ (Nat.gcd_dvd_right q q') with h' | h'
      · exact h'
      · exact absurd (h.symm.trans h') hne
  have hle := Nat.le_of_dvd (by omega) (hco.mul_dvd_of_dvd_of_dvd hd hd')
  have : (q * q') * (q * q') ≤ r * r := Nat.mul_le_mul (by omega) (by omega)
  omega
/-- trial division -/
def trial (n : Nat) : Nat → Bool
  | 0 => true
  | m + 1 => cond (Nat.ble 2 (m + 1)) (cond (Nat.beq (n % (m + 1)) 0) false (trial n m)) true
theorem trial_spec (n : Nat) : ∀ m, trial n m = true → ∀ d, 2 ≤ d → d ≤ m → ¬ d ∣ n
  | 0, _, d, h2, hm => by omega
  | m + 1, h, d, h2, hm => by
    have hb : Nat.ble 2 (m + 1) = true := Nat.ble_eq_true_of_le (by omega)
    unfold trial at h
    rw [hb, cond_true] at h
    cases hz : Nat.beq (n % (m + 1)) 0 with
    | true => rw [hz] at h; cases h
    | false =>
      rw [hz, cond_false] at h
      by_cases he : d = m + 1
      · subst he
        intro hd
        exact Nat.ne_of_beq_eq_false hz (Nat.mod_eq_zero_of_dvd hd)
      · exact trial_spec n m h d h2 (by omega)
theorem trial_prime {n m : Nat} (h2 : 2 ≤ n) (hm : n < (m + 1) * (m + 1)) (h : trial n m = true) : PrimeN n := by
  refine Classical.byContradiction fun hc => ?_
  obtain ⟨r, hr, hrN, hrr⟩ := small_prime h2 hc
  have : r ≤ m := Nat.le_of_not_lt fun hlt => by
    have : (m + 1) * (m + 1) ≤ r * r := Nat.mul_le_mul hlt hlt
    omega
  exact trial_spec n m h r hr.1 this hrN

/-! ### the chain -/
theorem p430751 : PrimeN 430751 := trial_prime (m := 657) (by decide) (by decide) (by decide +kernel)
theorem p4153 : PrimeN 4153 := trial_prime (m := 65) (by decide) (by decide) (by decide +kernel)
theorem p127 : PrimeN 127 := trial_prime (m := 12) (by decide) (by decide) (by decide +kernel)
theorem p991 : PrimeN 991 := trial_prime (m := 32) (by decide) (by decide) (by decide +kernel)
theorem p103 : PrimeN 103 := trial_prime (m := 11) (by decide) (by decide) (by decide +kernel)
theorem p569003 : PrimeN 569003 := trial_prime (m := 755) (by decide) (by decide) (by decide +kernel)
theorem p8574133 : PrimeN 8574133 := pock2 (a := 2) (f := 24) p991 p103 (by decide) (by decide +kernel) (by decide +kernel) (by decide +kernel) (by decide +kernel) (by decide +kernel) (by decide +kernel) (by decide +kernel) (by decide +kernel)
theorem p31757755568855353 : PrimeN 31757755568855353 := pock2 (a := 2) (f := 56) p430751 p4153 (by decide) (by decide +kernel) (by decide +kernel) (by decide +kernel) (by decide +kernel) (by decide +kernel) (by decide +kernel) (by decide +kernel) (by decide +kernel)
theorem p1919519569386763 : PrimeN 1919519569386763 := pock2 (a := 2) (f := 56) p8574133 p127 (by decide) (by decide +kernel) (by decide +kernel) (by decide +kernel) (by decide +kernel) (by decide +kernel) (by decide +kernel) (by decide +kernel) (by decide +kernel)
theorem p2773320623 : PrimeN 2773320623 := pock1 (a := 2) (f := 40) p569003 (by decide +kernel) (by decide +kernel) (by decide +kernel) (by decide +kernel) (by decide +kernel) (by decide +kernel)
theorem p72106336199 : PrimeN 72106336199 := pock1 (a := 2) (f := 40) p2773320623 (by decide +kernel) (by decide +kernel) (by decide +kernel) (by decide +kernel) (by decide +kernel) (by decide +kernel)
theorem p116 : PrimeN 75445702479781427272750846543864801 := pock2 (a := 2) (f := 120) p1919519569386763 p72106336199 (by decide) (by decide +kernel) (by decide +kernel) (by decide +kernel) (by decide +kernel) (by decide +kernel) (by decide +kernel) (by decide +kernel) (by decide +kernel)
theorem p236 : PrimeN 74058212732561358302231226437062788676166966415465897661863160754340907 := pock2 (a := 2) (f := 240) p116 p31757755568855353 (by decide +kernel) (by decide +kernel) (by decide +kernel) (by decide +kernel) (by decide +kernel) (by decide +kernel) (by decide +kernel) (by decide +kernel) (by decide +kernel)
theorem prime255 : PrimeN (2 ^ 255 - 19) := pock1 (a := 2) (f := 255) p236 (by decide +kernel) (by decide +kernel) (by decide +kernel) (by decide +kernel) (by decide +kernel) (by decide +kernel)
end Go.Proofs.YtjblfkmmbpcpaaaDoor.Num
