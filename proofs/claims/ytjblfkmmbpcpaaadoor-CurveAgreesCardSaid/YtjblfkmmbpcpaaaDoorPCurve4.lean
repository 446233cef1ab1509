/-
  PLAIN (own work), CURVE PART 4: every u but 0 is a point's on one of two curves; multiplications commute.
-/
import Derived.Test.YtjblfkmmbpcpaaaDoorPCurve3
import Derived.Test.YtjblfkmmbpcpaaaDoorPSq
namespace Go.Proofs.YtjblfkmmbpcpaaaDoor
set_option linter.unusedSimpArgs false
set_option linter.unusedVariables false
set_option linter.unusedSectionVars false
open Go Go.LW
set_option maxRecDepth 10000

theorem chi_of (n : Nat) : chi (ofN n) = ofN (Num.pm p255 256 n ((p255 - 1) / 2)) := by
  unfold chi
  rw [← ofN_pow]
  exact ofN_eq.2 (Num.pm_spec p255 256 n ((p255 - 1) / 2) (by decide +kernel)).symm
theorem ns_of {d : Fp} (h : chi d = -1) : NS d := by
  intro s t hst
  refine Classical.byContradiction fun ht => ?_
  have hd : d ≠ 0 := fun e => by
    rw [e] at h
    exact neg_nz (h.symm.trans (zero_pow (by decide)))
  have hs : s ≠ 0 := fun e => by
    rw [e, fmul0] at hst
    exact f_ne hd (f_ne ht ht) hst.symm
  have h1 := chi_sq hs
  rw [hst, chi_mul, h, chi_sq ht] at h1
  exact neg_one_ne ((fmul1 _).symm.trans h1)
where fmul1 (x : Fp) : x * 1 = x := by grind
def D1 : Fp := ofN 20800338683988658368647408995589388737092878452977063003340006470870624536394
def D2 : Fp := ofN 28692721048178265397853269683490922171210976843790175684556505508326675974058
def c1 : Fp := ofN 53349024335595116287218880480235248380932224208407348260407321313250266849793
theorem D1_eq : D1 * 121666 = 121665 := by decide +kernel
theorem D2_eq : D2 * 121665 = 121666 := by decide +kernel
theorem c1_eq : c1 * c1 = 121666 := by decide +kernel
theorem a24_eq : a24 = 121665 := by decide +kernel
theorem ns1 : NS D1 := ns_of (by unfold D1; rw [chi_of]; decide +kernel)
theorem ns2 : NS D2 := ns_of (by unfold D2; rw [chi_of]; decide +kernel)
theorem crv1 : Crv D1 1 := ⟨ns1, .inl ⟨rfl, by rw [a24_eq]; have := D1_eq; grind⟩⟩
theorem crv2 : Crv D2 (-1) := ⟨ns2, .inr ⟨rfl, by rw [a24_eq]; have := D2_eq; grind⟩⟩

theorem q_ne (U : Fp) : U * U + 486662 * U + 1 ≠ 0 := fun h => by
  have h1 : (2 * U + 486662) * (2 * U + 486662) = D1 * ((4 * 121666) * (4 * 121666)) := by
    have := D1_eq
    grind
  have h2 := ns1 _ _ h1
  exact absurd h2 (by decide +kernel)
def wcN (U : Fp) : Fp := U * (U * U + 486662 * U + 1)
theorem on1 {d U i r q j c : Fp} (hd : d * 121666 = 121665) (hc : c * c = 121666) (hi : (U + 1) * i = 1) (hq : q = U * U + 486662 * U + 1) (hj : q * j = 1) (hr : r * r = U * q) :
    (2 * c * r * j)^2 + ((U - 1) * i)^2 = 1 + d * (2 * c * r * j)^2 * ((U - 1) * i)^2 := by
  have h1 : (2 * c * r * j)^2 = 4 * 121666 * U * j := by
    have e : (2 * c * r * j)^2 = 4 * (c * c) * (r * r) * (j * j) := by clear hd hc hi hq hj hr; grind
    rw [e, hc, hr]
    have e2 : 4 * 121666 * (U * q) * (j * j) = 4 * 121666 * U * j * (q * j) := by clear hd hc hi hq hj hr e; grind
    rw [e2, hj]; clear hd hc hi hq hj hr e e2; grind
  rw [h1]
  have h2 : (1 - d * ((U - 1) * i)^2) * 121666 = q * (i * i) := by
    subst hq
    clear h1 hr hj hc
    grind
  have h3 : 1 - ((U - 1) * i)^2 = 4 * U * (i * i) := by clear h1 h2 hr hj hc hd hq; grind
  have h4 : 4 * 121666 * U * j * (1 - d * ((U - 1) * i)^2) = 4 * U * (i * i) := by
    have e : 4 * 121666 * U * j * (1 - d * ((U - 1) * i)^2) = 4 * U * j * ((1 - d * ((U - 1) * i)^2) * 121666) := by clear h1 h2 h3 hr hj hc hd hq hi; grind
    rw [e, h2]
    have e2 : 4 * U * j * (q * (i * i)) = 4 * U * (i * i) * (q * j) := by clear h1 h2 h3 hr hj hc hd hq hi e; grind
    rw [e2, hj]; clear h1 h2 h3 hr hj hc hd hq hi e e2; grind
  generalize ((U - 1) * i)^2 = Y at *
  generalize 4 * 121666 * U * j = X at *
  rw [← h3] at h4
  clear h1 h2 h3 hr hj hc hd hq hi
  grind
theorem on2 {d U i r q j : Fp} (hd : d * 121665 = 121666) (hi : (U - 1) * i = 1) (hq : q = U * U + 486662 * U + 1) (hj : q * j = 1) (hr : r * r = U * q * 121665) :
    (2 * r * j)^2 + ((U + 1) * i)^2 = 1 + d * (2 * r * j)^2 * ((U + 1) * i)^2 := by
  have h1 : (2 * r * j)^2 = 4 * 121665 * U * j := by
    have e : (2 * r * j)^2 = 4 * (r * r) * (j * j) := by clear hd hi hq hj hr; grind
    rw [e, hr]
    have e2 : 4 * (U * q * 121665) * (j * j) = 4 * 121665 * U * j * (q * j) := by clear hd hi hq hj hr e; grind
    rw [e2, hj]; clear hd hi hq hj hr e e2; grind
  rw [h1]
  have h2 : (1 - d * ((U + 1) * i)^2) * 121665 = -(q * (i * i)) := by
    subst hq
    clear h1 hr hj
    grind
  have h3 : 1 - ((U + 1) * i)^2 = -(4 * U * (i * i)) := by clear h1 h2 hr hj hd hq; grind
  have h4 : 4 * 121665 * U * j * (1 - d * ((U + 1) * i)^2) = -(4 * U * (i * i)) := by
    have e : 4 * 121665 * U * j * (1 - d * ((U + 1) * i)^2) = 4 * U * j * ((1 - d * ((U + 1) * i)^2) * 121665) := by clear h1 h2 h3 hr hj hd hq hi; grind
    rw [e, h2]
    have e2 : 4 * U * j * (-(q * (i * i))) = -(4 * U * (i * i)) * (q * j) := by clear h1 h2 h3 hr hj hd hq hi e; grind
    rw [e2, hj]; clear h1 h2 h3 hr hj hd hq hi e e2; grind
  generalize ((U + 1) * i)^2 = Y at *
  generalize 4 * 121665 * U * j = X at *
  rw [← h3] at h4
  clear h1 h2 h3 hr hj hd hq hi
  grind
theorem nr_of {n : Nat} (h0 : ofN n ≠ 0) (h : chi (ofN n) = -1) : ¬ hasR (ofN n) := fun h1 => by
  rcases h1 with h1 | h1
  · exact h0 h1
  · exact neg_one_ne (h.symm.trans h1)
theorem nr_a24 : ¬ hasR (121665 : Fp) := nr_of (n := 121665) (by decide +kernel) (by rw [chi_of]; decide +kernel)
theorem nr_m1 : ¬ hasR (wcN (-1)) := by
  have e : wcN (-1) = ofN 486660 := by decide +kernel
  rw [e]
  exact nr_of (by decide +kernel) (by rw [chi_of]; decide +kernel)
theorem hr_1 : hasR (wcN 1) := by
  have e : wcN 1 = ofN 486664 := by decide +kernel
  rw [e]
  exact .inr (by rw [chi_of]; decide +kernel)
theorem point_of {U : Fp} (hU : U ≠ 0) : ∃ d s P, Crv d s ∧ On d P ∧ U * (1 - P.2) = s * (1 + P.2) ∧ ((d = D1 ∧ s = 1) ∨ (d = D2 ∧ s = -1)) := by
  have hq := q_ne U
  have hj := inv_mul hq
  have hw : wcN U ≠ 0 := f_ne hU hq
  have key : ∀ {P : Prop}, (hasR (wcN U) → P) → (¬ hasR (wcN U) → P) → P := fun a b => (Classical.em _).elim a b
  refine key (fun h => ?_) (fun h => ?_)
  · have hu : U + 1 ≠ 0 := fun e => by
      have e2 : U = -1 := neg_of e
      rw [e2] at h
      exact nr_m1 h
    have hi := inv_mul hu
    have hr := raw_sq h
    refine ⟨D1, 1, (2 * c1 * rawN (wcN U) * invN (U * U + 486662 * U + 1), (U - 1) * invN (U + 1)), crv1, on1 D1_eq c1_eq hi rfl hj hr, ?_, .inl ⟨rfl, rfl⟩⟩
    show U * (1 - (U - 1) * invN (U + 1)) = 1 * (1 + (U - 1) * invN (U + 1))
    exact frac1 hi
  · have hu : U - 1 ≠ 0 := fun e => by
      have e2 : U = 1 := one_of e
      rw [e2] at h
      exact h hr_1
    have hi := inv_mul hu
    have hr := raw_sq ((hasR_mul h (show (121665 : Fp) ≠ 0 from fun e => nr_a24 (.inl e))).2 nr_a24)
    refine ⟨D2, -1, (2 * rawN (wcN U * 121665) * invN (U * U + 486662 * U + 1), (U + 1) * invN (U - 1)), crv2, on2 D2_eq hi rfl hj hr, ?_, .inr ⟨rfl, rfl⟩⟩
    show U * (1 - (U + 1) * invN (U - 1)) = -1 * (1 + (U + 1) * invN (U - 1))
    exact frac2 hi
where
  neg_of {U : Fp} (e : U + 1 = 0) : U = -1 := by grind
  one_of {U : Fp} (e : U - 1 = 0) : U = 1 := by grind
  frac1 {U i : Fp} (h : (U + 1) * i = 1) : U * (1 - (U - 1) * i) = 1 * (1 + (U - 1) * i) := by grind
  frac2 {U i : Fp} (h : (U - 1) * i = 1) : U * (1 - (U + 1) * i) = -1 * (1 + (U + 1) * i) := by grind

/-! ### multiplications commute -/
theorem uu_back {s : Fp} {P : P1} (h : uu s P ≠ 0) : uu s P * (1 - P.2) = s * (1 + P.2) := by
  have hn : 1 - P.2 ≠ 0 := fun e => h (by unfold uu; rw [e, inv_zero, fmul0])
  exact canc (inv_mul hn)
def Two (P : P1) : Prop := P.1 = 0 ∧ P.2 * P.2 = 1
theorem uu_two {d s : Fp} (hc : Crv d s) {P : P1} (hP : On d P) (h : uu s P = 0) : Two P := by
  have hy : P.2 * P.2 = 1 := by
    rcases f_dom h with h1 | h1
    · rcases f_dom h1 with h2 | h2
      · exact absurd h2 hc.ne
      · exact sq_m h2
    · by_cases h2 : 1 - P.2 = 0
      · exact sq_p h2
      · exact absurd h1 (inv_ne h2)
  refine ⟨?_, hy⟩
  have h2 : P.1 * P.1 * (1 - d) = 0 := x_z hP hy
  rcases f_dom h2 with h3 | h3
  · rcases f_dom h3 with h4 | h4 <;> exact h4
  · exact absurd h3 hc.1.one
where
  sq_m {y : Fp} (h : 1 + y = 0) : y * y = 1 := by grind
  sq_p {y : Fp} (h : 1 - y = 0) : y * y = 1 := by grind
  x_z {d x y : Fp} (h : x^2 + y^2 = 1 + d*x^2*y^2) (hy : y * y = 1) : x * x * (1 - d) = 0 := by grind
theorem two_uu {s : Fp} {P : P1} (h : Two P) : uu s P = 0 := by
  have h1 : (1 + P.2) * (1 - P.2) = 0 := pr h.2
  unfold uu
  rcases f_dom h1 with h2 | h2
  · rw [h2, fmul0, zmul]
  · rw [h2, inv_zero, fmul0]
where pr {y : Fp} (h : y * y = 1) : (1 + y) * (1 - y) = 0 := by grind
theorem two_add (d : Fp) {P Q : P1} (hP : Two P) (hQ : Two Q) : Two (eadd d P Q) := by
  obtain ⟨x1, y1⟩ := P
  obtain ⟨x2, y2⟩ := Q
  obtain ⟨rfl, h1⟩ : x1 = 0 ∧ y1 * y1 = 1 := hP
  obtain ⟨rfl, h2⟩ : x2 = 0 ∧ y2 * y2 = 1 := hQ
  have e : eE d (0, y1) (0, y2) = 0 := ez d y1 y2
  have e2 : eadd d (0, y1) (0, y2) = ((0 * y2 + y1 * 0) * invN (1 + eE d (0, y1) (0, y2)), (y1 * y2 - 0 * 0) * invN (1 - eE d (0, y1) (0, y2))) := rfl
  rw [e2, e, add0, sub0, inv_one]
  exact ⟨zz y1 y2, yy h1 h2⟩
where
  ez (d y1 y2 : Fp) : d * 0 * 0 * y1 * y2 = 0 := by grind
  zz (y1 y2 : Fp) : (0 * y2 + y1 * 0) * 1 = 0 := by rw [zmul, fmul0, add0, zmul]
  yy {y1 y2 : Fp} (h1 : y1 * y1 = 1) (h2 : y2 * y2 = 1) : (y1 * y2 - 0 * 0) * 1 * ((y1 * y2 - 0 * 0) * 1) = 1 := by grind
theorem two_O : Two eO := ⟨rfl, by show (1 : Fp) * 1 = 1; rfl⟩
theorem two_mul (d : Fp) {P : P1} (hP : Two P) : ∀ n, Two (emul d n P)
  | 0 => two_O
  | n + 1 => two_add d (two_mul d hP n) hP
theorem times_times {d s U : Fp} (hc : Crv d s) (hU0 : U ≠ 0) {P : P1} (hP : On d P) (hU : U * (1 - P.2) = s * (1 + P.2)) {K1 K2 : Nat} (h1 : K1 < 2 ^ 255) (h2 : K2 < 2 ^ 255) :
    timesN K1 (timesN K2 U) = uu s (emul d (K1 * K2) P) := by
  have hd := hc.1
  rw [times_mul hc hU0 hP hU h2, emul_mul hd hP K2 K1]
  have hQ := on_mul hd hP K2
  generalize emul d K2 P = Q at *
  have key : ∀ {R : Prop}, (uu s Q = 0 → R) → (uu s Q ≠ 0 → R) → R := fun a b => (Classical.em _).elim a b
  refine key (fun hv => ?_) (fun hv => ?_)
  · rw [hv, times_zero, two_uu (two_mul d (uu_two hc hQ hv) K1)]
  · exact times_mul hc hv hQ (uu_back hv) h1
theorem times_comm {K1 K2 : Nat} (h1 : K1 < 2 ^ 255) (h2 : K2 < 2 ^ 255) (U : Fp) : timesN K1 (timesN K2 U) = timesN K2 (timesN K1 U) := by
  have key : ∀ {R : Prop}, (U = 0 → R) → (U ≠ 0 → R) → R := fun a b => (Classical.em _).elim a b
  refine key (fun hU => ?_) (fun hU => ?_)
  · rw [hU, times_zero, times_zero, times_zero]
  · obtain ⟨d, s, P, hc, hP, hu, _⟩ := point_of hU
    rw [times_times hc hU hP hu h1 h2, times_times hc hU hP hu h2 h1, Nat.mul_comm]

/-! ### the clamped numbers -/
theorem clamp_31 : ∀ x : BitVec 8, ((x &&& 127#8) ||| 64#8).toNat < 128 ∧ 64 ≤ ((x &&& 127#8) ||| 64#8).toNat := by decide +kernel
theorem clamp_0 : ∀ x : BitVec 8, (x &&& ~~~7#8).toNat % 8 = 0 := by decide +kernel
theorem clamp_bds (k : Nat → BitVec 8) : numB (clampF k) 32 < 2 ^ 255 ∧ 2 ^ 254 ≤ numB (clampF k) 32 ∧ numB (clampF k) 32 % 8 = 0 := by
  have e31 : clampF k 31 = (k 31 &&& 127#8) ||| 64#8 := by
    unfold clampF; rw [upd_same, upd_ne _ _ _ _ (by omega)]
  have e0 : clampF k 0 = k 0 &&& ~~~7#8 := by
    unfold clampF; rw [upd_ne _ _ _ _ (by omega), upd_same]
  have hN : numB (clampF k) 32 = numB (clampF k) 31 + (clampF k 31).toNat * 256 ^ 31 := rfl
  have hlt := numB_lt (clampF k) 31
  have h31 := clamp_31 (k 31)
  have h0 := clamp_0 (k 0)
  have hb := byte_num (clampF k) (q := 0) (by omega)
  rw [← e31] at h31
  rw [e0, Nat.pow_zero, Nat.div_one] at hb
  refine ⟨?_, ?_, by omega⟩ <;> rw [hN]
  · generalize numB (clampF k) 31 = a at *
    generalize (clampF k 31).toNat = b at *
    omega
  · generalize numB (clampF k) 31 = a at *
    generalize (clampF k 31).toNat = b at *
    omega
theorem ofB_val {r : Nat → BitVec 8} {x : Fp} (h : numB r 32 = x.val) : ofB r = x := by
  unfold ofB
  rw [h, Nat.mod_eq_of_lt (Nat.lt_trans x.isLt p_lt')]
  exact ofN_self x
end Go.Proofs.YtjblfkmmbpcpaaaDoor
