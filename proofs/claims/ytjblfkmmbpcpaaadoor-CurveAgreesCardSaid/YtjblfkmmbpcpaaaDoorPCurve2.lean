/-
  PLAIN (own work), CURVE PART 2: the group of the points with x^2 + y^2 = 1 + d x^2 y^2, d no square.
-/
import Derived.Test.YtjblfkmmbpcpaaaDoorPCurve1
namespace Go.Proofs.YtjblfkmmbpcpaaaDoor
set_option linter.unusedSimpArgs false
set_option linter.unusedVariables false
set_option linter.unusedSectionVars false
open Go Go.LW
set_option maxRecDepth 10000

def NS (d : Fp) : Prop := ∀ s t : Fp, s * s = d * (t * t) → t = 0
def On (d : Fp) (P : P1) : Prop := P.1^2 + P.2^2 = 1 + d*P.1^2*P.2^2
def eE (d : Fp) (P Q : P1) : Fp := d * P.1 * Q.1 * P.2 * Q.2
def eadd (d : Fp) (P Q : P1) : P1 := ((P.1*Q.2 + P.2*Q.1) * invN (1 + eE d P Q), (P.2*Q.2 - P.1*Q.1) * invN (1 - eE d P Q))
def eO : P1 := (0, 1)

theorem add0 (x : Fp) : x + 0 = x := by grind
theorem sub0 (x : Fp) : x - 0 = x := by grind
theorem mul00 (d : Fp) : d * (0 * 0) = 0 := by grind
theorem f_ne {x y : Fp} (hx : x ≠ 0) (hy : y ≠ 0) : x * y ≠ 0 := fun h => (f_dom h).elim hx hy
theorem two_nz : (2 : Fp) ≠ 0 := by
  intro h
  have := congrArg Fin.val h
  exact absurd this (by decide +kernel)
theorem f_canc {x y z : Fp} (hz : z ≠ 0) (h : x * z = y * z) : x = y := by
  have h1 : (x - y) * z = 0 := by grind
  rcases f_dom h1 with h2 | h2
  · grind
  · exact absurd h2 hz
theorem NS.ne {d : Fp} (h : NS d) : d ≠ 0 := fun e => by
  have := h 0 1 (by rw [e]; grind)
  exact one_ne this
theorem NS.one {d : Fp} (h : NS d) : 1 - d ≠ 0 := fun e => by
  have := h 1 1 (by grind)
  exact one_ne this
theorem NS.sq {d : Fp} (h : NS d) (y : Fp) : 1 - d * (y * y) ≠ 0 := fun e => by
  have := h 1 y (by grind)
  rw [this] at e
  rw [mul00, sub0] at e
  exact one_ne e

theorem complete_pol (d x1 y1 x2 y2 e : Fp) (E1 : x1^2 + y1^2 = 1 + d*x1^2*y1^2) (E2 : x2^2 + y2^2 = 1 + d*x2^2*y2^2) (he : e = d*x1*x2*y1*y2) (h1 : e * e = 1) :
    (x1 + e * y1) * (x1 + e * y1) = d * ((x1 * y1 * (x2 + y2)) * (x1 * y1 * (x2 + y2))) ∧ (x1 - e * y1) * (x1 - e * y1) = d * ((x1 * y1 * (x2 - y2)) * (x1 * y1 * (x2 - y2))) := by
  subst he
  constructor <;> grind
theorem complete {d : Fp} (hd : NS d) {P Q : P1} (hP : On d P) (hQ : On d Q) : eE d P Q * eE d P Q ≠ 1 := by
  obtain ⟨x1, y1⟩ := P
  obtain ⟨x2, y2⟩ := Q
  intro h
  obtain ⟨h1, h2⟩ := complete_pol d x1 y1 x2 y2 _ hP hQ rfl h
  have t1 := hd _ _ h1
  have t2 := hd _ _ h2
  have key : eE d (x1, y1) (x2, y2) = 0 → False := fun e0 => by
    rw [e0] at h
    exact one_ne (by grind)
  have e1 : eE d (x1, y1) (x2, y2) = d * x1 * x2 * y1 * y2 := rfl
  rcases f_dom t1 with h3 | h3
  · exact key (by rw [e1]; grind)
  · rcases f_dom t2 with h4 | h4
    · exact key (by rw [e1]; grind)
    · have h5 : 2 * x2 = 0 := by grind
      rcases f_dom h5 with h6 | h6
      · exact two_nz h6
      · exact key (by rw [e1, h6]; grind)
theorem den_p {d : Fp} (hd : NS d) {P Q : P1} (hP : On d P) (hQ : On d Q) : 1 + eE d P Q ≠ 0 := fun h => complete hd hP hQ (by
  generalize eE d P Q = e at *; grind)
theorem den_m {d : Fp} (hd : NS d) {P Q : P1} (hP : On d P) (hQ : On d Q) : 1 - eE d P Q ≠ 0 := fun h => complete hd hP hQ (by
  generalize eE d P Q = e at *; grind)
theorem closure_pol (d x1 y1 x2 y2 e S C : Fp) (E1 : x1^2 + y1^2 = 1 + d*x1^2*y1^2) (E2 : x2^2 + y2^2 = 1 + d*x2^2*y2^2) (he : e = d*x1*x2*y1*y2) (hS : S = x1*y2+y1*x2) (hC : C = y1*y2-x1*x2) :
    S^2*(1-e)^2 + C^2*(1+e)^2 = (1-e)^2*(1+e)^2 + d*S^2*C^2 := by
  subst he hS hC
  grind
theorem canc {u v i : Fp} (h : v * i = 1) : u * i * v = u := by grind
theorem sq_inv {a p : Fp} (h : a * p = 1) : a^2 * p^2 = 1 := by grind
theorem closure_fin (d e p q S C : Fp) (h : S^2*(1-e)^2 + C^2*(1+e)^2 = (1-e)^2*(1+e)^2 + d*S^2*C^2) (hp : (1 + e) * p = 1) (hq : (1 - e) * q = 1) : (S * p)^2 + (C * q)^2 = 1 + d * (S * p)^2 * (C * q)^2 := by
  have p2 := sq_inv hp
  have q2 := sq_inv hq
  clear hp hq
  generalize (1 + e)^2 = a at *
  generalize (1 - e)^2 = b at *
  have h2 : (S * p)^2 + (C * q)^2 = (S^2 * b + C^2 * a) * (p^2 * q^2) := by
    have e1 : (S^2 * b + C^2 * a) * (p^2 * q^2) = (S * p)^2 * (b * q^2) + (C * q)^2 * (a * p^2) := by clear h p2 q2; grind
    rw [e1, p2, q2]; clear h p2 q2 e1; grind
  have h3 : (b * a + d*S^2*C^2) * (p^2 * q^2) = 1 + d * (S * p)^2 * (C * q)^2 := by
    have e1 : (b * a + d*S^2*C^2) * (p^2 * q^2) = (b * q^2) * (a * p^2) + d * (S * p)^2 * (C * q)^2 := by clear h p2 q2 h2; grind
    rw [e1, p2, q2]; clear h p2 q2 e1 h2; grind
  rw [h2, h, h3]
theorem on_add {d : Fp} (hd : NS d) {P Q : P1} (hP : On d P) (hQ : On d Q) : On d (eadd d P Q) :=
  closure_fin d (eE d P Q) _ _ (P.1 * Q.2 + P.2 * Q.1) (P.2 * Q.2 - P.1 * Q.1) (closure_pol d P.1 P.2 Q.1 Q.2 _ _ _ hP hQ rfl rfl rfl) (inv_mul (den_p hd hP hQ)) (inv_mul (den_m hd hP hQ))
theorem on_O (d : Fp) : On d eO := by
  show (0:Fp)^2 + 1^2 = 1 + d*0^2*1^2
  grind
theorem eadd_comm (d : Fp) (P Q : P1) : eadd d P Q = eadd d Q P := by
  have e : eE d P Q = eE d Q P := by unfold eE; grind
  unfold eadd
  rw [e]
  refine Prod.ext ?_ ?_
  · show _ = _; grind
  · show _ = _; grind
theorem inv_one : invN 1 = 1 := by
  have := inv_mul one_ne
  grind
theorem eadd_O (d : Fp) (P : P1) : eadd d P eO = P := by
  have e : eE d P eO = 0 := by unfold eE eO; grind
  unfold eadd
  rw [e]
  have h1 : invN (1 + 0 : Fp) = 1 := by rw [add0, inv_one]
  have h2 : invN (1 - 0 : Fp) = 1 := by rw [sub0, inv_one]
  rw [h1, h2]
  refine Prod.ext ?_ ?_
  · show (P.1 * 1 + P.2 * 0) * 1 = P.1; grind
  · show (P.2 * 1 - P.1 * 0) * 1 = P.2; grind

theorem assoc_x (d x1 y1 x2 y2 x3 y3 e f S C S' C' : Fp) (E1 : x1^2 + y1^2 = 1 + d*x1^2*y1^2) (E2 : x2^2 + y2^2 = 1 + d*x2^2*y2^2) (E3 : x3^2 + y3^2 = 1 + d*x3^2*y3^2)
    (he : e = d*x1*x2*y1*y2) (hf : f = d*x2*x3*y2*y3) (hS : S = x1*y2+y1*x2) (hC : C = y1*y2-x1*x2) (hS' : S' = x2*y3+y2*x3) (hC' : C' = y2*y3-x2*x3) :
    (S*(1-e)*y3 + C*(1+e)*x3) * ((1-f)*(1+f) + d*S'*C'*x1*y1) = (x1*C'*(1+f) + y1*S'*(1-f)) * ((1-e)*(1+e) + d*S*C*x3*y3) := by
  subst he hf hS hC hS' hC'
  grind
theorem assoc_y (d x1 y1 x2 y2 x3 y3 e f S C S' C' : Fp) (E1 : x1^2 + y1^2 = 1 + d*x1^2*y1^2) (E2 : x2^2 + y2^2 = 1 + d*x2^2*y2^2) (E3 : x3^2 + y3^2 = 1 + d*x3^2*y3^2)
    (he : e = d*x1*x2*y1*y2) (hf : f = d*x2*x3*y2*y3) (hS : S = x1*y2+y1*x2) (hC : C = y1*y2-x1*x2) (hS' : S' = x2*y3+y2*x3) (hC' : C' = y2*y3-x2*x3) :
    (C*(1+e)*y3 - S*(1-e)*x3) * ((1-f)*(1+f) - d*S'*C'*x1*y1) = (y1*C'*(1+f) - x1*S'*(1-f)) * ((1-e)*(1+e) - d*S*C*x3*y3) := by
  subst he hf hS hC hS' hC'
  grind
/-- out of fractions -/
theorem frac_l (d e i j S C x3 y3 : Fp) (hi : (1 + e) * i = 1) (hj : (1 - e) * j = 1) :
    (1 - e) * (1 + e) * (S * i * y3 + C * j * x3) = S*(1-e)*y3 + C*(1+e)*x3 ∧ (1 - e) * (1 + e) * (1 + d * (S * i) * x3 * (C * j) * y3) = (1-e)*(1+e) + d*S*C*x3*y3 ∧
    (1 - e) * (1 + e) * (C * j * y3 - S * i * x3) = C*(1+e)*y3 - S*(1-e)*x3 ∧ (1 - e) * (1 + e) * (1 - d * (S * i) * x3 * (C * j) * y3) = (1-e)*(1+e) - d*S*C*x3*y3 := by
  refine ⟨?_, ?_, ?_, ?_⟩ <;> grind
theorem quot_eq {A B N1 D1 N2 D2 m1 m2 X Y : Fp} (hA : m1 * A = N1) (hB : m2 * B = N2) {a b : Fp} (ha : m1 * a = D1) (hb : m2 * b = D2) (h1 : m1 ≠ 0) (h2 : m2 ≠ 0) (ha0 : a ≠ 0) (hb0 : b ≠ 0) (hX : X * a = A) (hY : Y * b = B) (h : N1 * D2 = N2 * D1) : X = Y := by
  have hD : m1 * a * (m2 * b) ≠ 0 := f_ne (f_ne h1 ha0) (f_ne h2 hb0)
  refine f_canc hD ?_
  subst hA hB ha hb hX hY
  have e1 : X * (m1 * a * (m2 * b)) = m1 * (X * a) * (m2 * b) := by grind
  have e2 : Y * (m1 * a * (m2 * b)) = m2 * (Y * b) * (m1 * a) := by grind
  rw [e1, e2]
  exact h
theorem eadd_assoc {d : Fp} (hd : NS d) {P Q R : P1} (hP : On d P) (hQ : On d Q) (hR : On d R) : eadd d (eadd d P Q) R = eadd d P (eadd d Q R) := by
  have hPQ := on_add hd hP hQ
  have hQR := on_add hd hQ hR
  have p1 := den_p hd hP hQ
  have m1 := den_m hd hP hQ
  have p2 := den_p hd hQ hR
  have m2 := den_m hd hQ hR
  have p3 := den_p hd hPQ hR
  have m3 := den_m hd hPQ hR
  have p4 := den_p hd hP hQR
  have m4 := den_m hd hP hQR
  obtain ⟨x1, y1⟩ := P
  obtain ⟨x2, y2⟩ := Q
  obtain ⟨x3, y3⟩ := R
  have ax := assoc_x d x1 y1 x2 y2 x3 y3 _ _ _ _ _ _ hP hQ hR rfl rfl rfl rfl rfl rfl
  have ay := assoc_y d x1 y1 x2 y2 x3 y3 _ _ _ _ _ _ hP hQ hR rfl rfl rfl rfl rfl rfl
  have i1 := inv_mul p1
  have j1 := inv_mul m1
  have i2 := inv_mul p2
  have j2 := inv_mul m2
  have i3 := inv_mul p3
  have j3 := inv_mul m3
  have i4 := inv_mul p4
  have j4 := inv_mul m4
  have e1 : eE d (x1, y1) (x2, y2) = d * x1 * x2 * y1 * y2 := rfl
  have e2 : eE d (x2, y2) (x3, y3) = d * x2 * x3 * y2 * y3 := rfl
  have E3 : eE d (eadd d (x1, y1) (x2, y2)) (x3, y3) = d * ((x1*y2 + y1*x2) * invN (1 + eE d (x1, y1) (x2, y2))) * x3 * ((y1*y2 - x1*x2) * invN (1 - eE d (x1, y1) (x2, y2))) * y3 := rfl
  have E4 : eE d (x1, y1) (eadd d (x2, y2) (x3, y3)) = d * x1 * ((x2*y3 + y2*x3) * invN (1 + eE d (x2, y2) (x3, y3))) * y1 * ((y2*y3 - x2*x3) * invN (1 - eE d (x2, y2) (x3, y3))) := rfl
  have c1 : ∀ a b : Fp, d * x1 * a * y1 * b = d * a * x1 * b * y1 := fun a b => by clear ax ay i1 j1 i2 j2 i3 j3 i4 j4 p1 m1 p2 m2 p3 m3 p4 m4 E3 E4 e1 e2 hPQ hQR hP hQ hR hd; grind
  rw [c1] at E4
  obtain ⟨f1, f2, f3, f4⟩ := frac_l d (d * x1 * x2 * y1 * y2) (invN (1 + d * x1 * x2 * y1 * y2)) (invN (1 - d * x1 * x2 * y1 * y2)) (x1*y2 + y1*x2) (y1*y2 - x1*x2) x3 y3 (by rw [← e1]; exact i1) (by rw [← e1]; exact j1)
  obtain ⟨g1, g2, g3, g4⟩ := frac_l d (d * x2 * x3 * y2 * y3) (invN (1 + d * x2 * x3 * y2 * y3)) (invN (1 - d * x2 * x3 * y2 * y3)) (x2*y3 + y2*x3) (y2*y3 - x2*x3) x1 y1 (by rw [← e2]; exact i2) (by rw [← e2]; exact j2)
  rw [E3] at p3 m3 i3 j3
  rw [E4] at p4 m4 i4 j4
  rw [e1] at p1 m1 i1 j1 p3 m3 i3 j3
  rw [e2] at p2 m2 i2 j2 p4 m4 i4 j4
  have L : eadd d (eadd d (x1, y1) (x2, y2)) (x3, y3) = ((((x1*y2 + y1*x2) * invN (1 + eE d (x1, y1) (x2, y2))) * y3 + ((y1*y2 - x1*x2) * invN (1 - eE d (x1, y1) (x2, y2))) * x3) * invN (1 + eE d (eadd d (x1, y1) (x2, y2)) (x3, y3)), (((y1*y2 - x1*x2) * invN (1 - eE d (x1, y1) (x2, y2))) * y3 - ((x1*y2 + y1*x2) * invN (1 + eE d (x1, y1) (x2, y2))) * x3) * invN (1 - eE d (eadd d (x1, y1) (x2, y2)) (x3, y3))) := rfl
  have R : eadd d (x1, y1) (eadd d (x2, y2) (x3, y3)) = ((x1 * ((y2*y3 - x2*x3) * invN (1 - eE d (x2, y2) (x3, y3))) + y1 * ((x2*y3 + y2*x3) * invN (1 + eE d (x2, y2) (x3, y3)))) * invN (1 + eE d (x1, y1) (eadd d (x2, y2) (x3, y3))), (y1 * ((y2*y3 - x2*x3) * invN (1 - eE d (x2, y2) (x3, y3))) - x1 * ((x2*y3 + y2*x3) * invN (1 + eE d (x2, y2) (x3, y3)))) * invN (1 - eE d (x1, y1) (eadd d (x2, y2) (x3, y3)))) := rfl
  rw [L, R, E3, E4, e1, e2]
  clear L R E3 E4 hP hQ hR hPQ hQR e1 e2
  generalize d * x1 * x2 * y1 * y2 = e at *
  generalize d * x2 * x3 * y2 * y3 = f at *
  generalize invN (1 + e) = i at *
  generalize invN (1 - e) = j at *
  generalize invN (1 + f) = i' at *
  generalize invN (1 - f) = j' at *
  generalize x1 * y2 + y1 * x2 = S at *
  generalize y1 * y2 - x1 * x2 = C at *
  generalize x2 * y3 + y2 * x3 = S' at *
  generalize y2 * y3 - x2 * x3 = C' at *
  have t1 := f_ne m1 p1
  have t2 := f_ne m2 p2
  generalize invN (1 + d * (S * i) * x3 * (C * j) * y3) = I at *
  generalize invN (1 - d * (S * i) * x3 * (C * j) * y3) = J at *
  generalize invN (1 + d * (S' * i') * x1 * (C' * j') * y1) = I' at *
  generalize invN (1 - d * (S' * i') * x1 * (C' * j') * y1) = J' at *
  refine Prod.ext ?_ ?_
  · refine quot_eq f1 g1 f2 g2 t1 t2 p3 p4 (canc i3) ?_ ?_
    · have e : x1 * (C' * j') + y1 * (S' * i') = S' * i' * y1 + C' * j' * x1 := by clear ax ay f1 f2 f3 f4 g1 g2 g3 g4 i1 j1 i2 j2 i3 j3 i4 j4 p1 m1 p2 m2 p3 m3 p4 m4 c1 t1 t2; grind
      show (x1 * (C' * j') + y1 * (S' * i')) * I' * _ = _
      rw [e]; exact canc i4
    · rw [ax]
      have e : x1 * C' * (1 + f) + y1 * S' * (1 - f) = S' * (1 - f) * y1 + C' * (1 + f) * x1 := by clear ax ay f1 f2 f3 f4 g1 g2 g3 g4 i1 j1 i2 j2 i3 j3 i4 j4 p1 m1 p2 m2 p3 m3 p4 m4 c1 t1 t2; grind
      rw [e]
  · refine quot_eq f3 g3 f4 g4 t1 t2 m3 m4 (canc j3) ?_ ?_
    · have e : y1 * (C' * j') - x1 * (S' * i') = C' * j' * y1 - S' * i' * x1 := by clear ax ay f1 f2 f3 f4 g1 g2 g3 g4 i1 j1 i2 j2 i3 j3 i4 j4 p1 m1 p2 m2 p3 m3 p4 m4 c1 t1 t2; grind
      show (y1 * (C' * j') - x1 * (S' * i')) * J' * _ = _
      rw [e]; exact canc j4
    · rw [ay]
      have e : y1 * C' * (1 + f) - x1 * S' * (1 - f) = C' * (1 + f) * y1 - S' * (1 - f) * x1 := by clear ax ay f1 f2 f3 f4 g1 g2 g3 g4 i1 j1 i2 j2 i3 j3 i4 j4 p1 m1 p2 m2 p3 m3 p4 m4 c1 t1 t2; grind
      rw [e]

/-! ### multiples -/
def emul (d : Fp) : Nat → P1 → P1
  | 0, _ => eO
  | n + 1, P => eadd d (emul d n P) P
theorem on_mul {d : Fp} (hd : NS d) {P : P1} (hP : On d P) : ∀ n, On d (emul d n P)
  | 0 => on_O d
  | n + 1 => on_add hd (on_mul hd hP n) hP
theorem emul_one (d : Fp) (P : P1) : emul d 1 P = P := by
  show eadd d eO P = P
  rw [eadd_comm, eadd_O]
theorem emul_add {d : Fp} (hd : NS d) {P : P1} (hP : On d P) (m : Nat) : ∀ n, emul d (m + n) P = eadd d (emul d m P) (emul d n P)
  | 0 => (eadd_O d _).symm
  | n + 1 => by
    show eadd d (emul d (m + n) P) P = eadd d (emul d m P) (eadd d (emul d n P) P)
    rw [emul_add hd hP m n, eadd_assoc hd (on_mul hd hP m) (on_mul hd hP n) hP]
theorem emul_O (d : Fp) : ∀ n, emul d n eO = eO
  | 0 => rfl
  | n + 1 => by show eadd d (emul d n eO) eO = eO; rw [eadd_O, emul_O d n]
theorem emul_mul {d : Fp} (hd : NS d) {P : P1} (hP : On d P) (m : Nat) : ∀ n, emul d (n * m) P = emul d n (emul d m P)
  | 0 => by rw [Nat.zero_mul]; rfl
  | n + 1 => by
    rw [Nat.succ_mul, emul_add hd hP, emul_mul hd hP m n]
    rfl
end Go.Proofs.YtjblfkmmbpcpaaaDoor
