/-
  PLAIN (own work), CURVE: orders of points; the base point's.
-/
import Derived.Test.YtjblfkmmbpcpaaaDoorPCurve4
import Derived.Test.YtjblfkmmbpcpaaaDoorPFixed
import Derived.Test.YtjblfkmmbpcpaaaDoorPPrimes
namespace Go.Proofs.YtjblfkmmbpcpaaaDoor
set_option linter.unusedSimpArgs false
set_option linter.unusedVariables false
set_option linter.unusedSectionVars false
open Go Go.LW
set_option maxRecDepth 10000

theorem emul_mulO {d : Fp} (hd : NS d) {P : P1} (hP : On d P) {m : Nat} (h : emul d m P = eO) (k : Nat) : emul d (m * k) P = eO := by
  rw [Nat.mul_comm, emul_mul hd hP, h, emul_O]
theorem emul_gcd {d : Fp} (hd : NS d) {P : P1} (hP : On d P) (m n : Nat) : emul d m P = eO → emul d n P = eO → emul d (Nat.gcd m n) P = eO := by
  induction m, n using Nat.gcd.induction with
  | H0 n => intro _ h; rw [Nat.gcd_zero_left]; exact h
  | H1 m n hm ih =>
    intro h1 h2
    rw [Nat.gcd_rec]
    refine ih ?_ h1
    have h3 : emul d n P = eadd d (emul d (m * (n / m)) P) (emul d (n % m) P) := by rw [← emul_add hd hP, Nat.div_add_mod]
    rw [emul_mulO hd hP h1, eadd_comm, eadd_O] at h3
    rw [← h3]; exact h2
theorem order_prime {d : Fp} (hd : NS d) {P : P1} (hP : On d P) {l : Nat} (hl : Num.PrimeN l) (h : emul d l P = eO) (hn : P ≠ eO) {n : Nat} (h2 : emul d n P = eO) : l ∣ n := by
  have hg := emul_gcd hd hP l n h h2
  rcases hl.2 _ (Nat.gcd_dvd_left l n) with e | e
  · rw [e, emul_one] at hg
    exact absurd hg hn
  · rw [← e]; exact Nat.gcd_dvd_right l n
theorem two_dbl (d : Fp) {P : P1} (h : Two P) : eadd d P P = eO := by
  obtain ⟨x, y⟩ := P
  obtain ⟨rfl, h1⟩ : x = 0 ∧ y * y = 1 := h
  have e : eE d (0, y) (0, y) = 0 := two_add.ez d y y
  have e2 : eadd d (0, y) (0, y) = ((0 * y + y * 0) * invN (1 + eE d (0, y) (0, y)), (y * y - 0 * 0) * invN (1 - eE d (0, y) (0, y))) := rfl
  rw [e2, e, add0, sub0, inv_one, two_add.zz, h1, fmul0, sub0]
  rfl
/-- what the ladder's z tells -/
theorem z_O {d s U : Fp} (hc : Crv d s) (hU0 : U ≠ 0) {P : P1} (hP : On d P) (hU : U * (1 - P.2) = s * (1 + P.2)) {K : Nat} (hK : K < 2 ^ 255) (hz : (mont K U 255).1.2 = 0) : emul d K P = eO := by
  have h := (mont_ok hc hU0 hP hU hK 255 (Nat.le_refl _)).1
  rw [show 255 - 255 = 0 by omega, Nat.pow_zero, Nat.div_one] at h
  have hon := on_mul hc.1 hP K
  generalize emul d K P = Q at *
  obtain ⟨l, hl, hX, hZ⟩ := h
  rw [hz] at hZ
  have hy : 1 - Q.2 = 0 := (f_dom hZ.symm).resolve_left hl
  have hy1 : Q.2 = 1 := y_one hy
  have htw : Two Q := ⟨?_, by rw [hy1]; rfl⟩
  · exact Prod.ext htw.1 hy1
  · have h2 : Q.1 * Q.1 * (1 - d) = 0 := uu_two.x_z hon (by rw [hy1]; rfl)
    rcases f_dom h2 with h3 | h3
    · rcases f_dom h3 with h4 | h4 <;> exact h4
    · exact absurd h3 hc.1.one
where y_one {y : Fp} (h : 1 - y = 0) : y = 1 := by grind
theorem z_is {u K : Nat} (h : mK p255 u K (fun _ z => Nat.beq (z % p255) 0) 255 1 0 u 1 = true) : (mont K (ofN u) 255).1.2 = 0 := by
  obtain ⟨x, z, h1, h2⟩ := mK_ok u K (fun _ z => Nat.beq (z % p255) 0) 255 (Nat.le_refl _) 1 0 u 1 (by decide) (by decide) rfl rfl
  rw [h] at h1
  rw [← h2]
  exact Fin.ext (Nat.eq_of_beq_eq_true h1.symm)
theorem z_base : (mont Num.ell (ofN 9) 255).1.2 = 0 := z_is (by decide +kernel)
theorem nine_ne : ofN 9 ≠ 0 := by decide +kernel
theorem z2n {U s : Fp} (h : U * ((1 : Fp) - 1) = s * (1 + 1)) : s * 2 = 0 := by grind
theorem notO {s U : Fp} {P : P1} (hs : s ≠ 0) (hU : U * (1 - P.2) = s * (1 + P.2)) : P ≠ eO := fun e => by
  rw [e] at hU
  have h2 : U * ((1 : Fp) - 1) = s * (1 + 1) := hU
  have h3 : s * 2 = 0 := z2n h2
  rcases f_dom h3 with h | h
  · exact hs h
  · exact two_nz h
theorem clamp_ell {K : Nat} (h1 : K < 2 ^ 255) (h2 : 2 ^ 254 ≤ K) (h3 : K % 8 = 0) : ¬ Num.ell ∣ K := fun h => by
  have e : Num.ell = 7237005577332262213973186563042994240857116359379907606001950938285454250989 := by decide +kernel
  obtain ⟨m, rfl⟩ : ∃ m, K = 8 * m := ⟨K / 8, by omega⟩
  rcases Num.prime_ell.dvd h with h4 | h4
  · have := Nat.le_of_dvd (by decide) h4
    omega
  · have := Nat.le_of_dvd (by omega) h4
    omega
/-- the secret of the base point's multiples is not 0 -/
theorem agree_ne {Ka Kb : Nat} (a1 : Ka < 2 ^ 255) (a2 : 2 ^ 254 ≤ Ka) (a3 : Ka % 8 = 0) (b1 : Kb < 2 ^ 255) (b2 : 2 ^ 254 ≤ Kb) (b3 : Kb % 8 = 0) : timesN Ka (timesN Kb (ofN 9)) ≠ 0 := by
  obtain ⟨d, s, P, hc, hP, hu, _⟩ := point_of nine_ne
  rw [times_times hc nine_ne hP hu a1 b1]
  intro h
  have hd := hc.1
  have ht := uu_two hc (on_mul hd hP _) h
  have h2 := two_dbl d ht
  rw [← emul_add hd hP] at h2
  have hO := z_O hc nine_ne hP hu (K := Num.ell) (by decide +kernel) z_base
  have hdv := order_prime hd hP Num.prime_ell hO (notO hc.ne hu) h2
  rw [show Ka * Kb + Ka * Kb = 2 * (Ka * Kb) by omega] at hdv
  rcases Num.prime_ell.dvd hdv with h3 | h3
  · exact absurd (Nat.le_of_dvd (by decide) h3) (by decide +kernel)
  · rcases Num.prime_ell.dvd h3 with h4 | h4
    · exact clamp_ell a1 a2 a3 h4
    · exact clamp_ell b1 b2 b3 h4
end Go.Proofs.YtjblfkmmbpcpaaaDoor
