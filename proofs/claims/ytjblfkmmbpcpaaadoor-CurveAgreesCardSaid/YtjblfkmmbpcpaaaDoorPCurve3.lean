/-
  PLAIN (own work), CURVE PART 3: the ladder is multiplication in the group.
-/
import Derived.Test.YtjblfkmmbpcpaaaDoorPCurve2
namespace Go.Proofs.YtjblfkmmbpcpaaaDoor
set_option linter.unusedSimpArgs false
set_option linter.unusedVariables false
set_option linter.unusedSectionVars false
open Go Go.LW
set_option maxRecDepth 10000

theorem fmul0 (x : Fp) : x * 0 = 0 := by grind
theorem neg_nz : (-1 : Fp) ≠ 0 := by
  intro h
  have := congrArg Fin.val h
  exact absurd this (by decide +kernel)
theorem neg_e (d x1 y1 x2 y2 : Fp) : 1 - d * x2 * (-x1) * y2 * y1 = 1 + d * x1 * x2 * y1 * y2 := by grind
theorem neg_n {x1 y1 x2 y2 : Fp} : y2 * y1 - x2 * (-x1) = y1 * y2 + x1 * x2 := by grind
theorem two_m {y : Fp} (h : 1 + y = 0) : 1 - y = 2 := by
  have : 1 - y = 2 - (1 + y) := by clear h; grind
  rw [this, h, sub0]
theorem ini {s i : Fp} (hs : s * s = 1) (h : 2 * i = 1) : 1 = s * i * (s * (1 + 1)) := by
  have e : s * i * (s * (1 + 1)) = (s * s) * (2 * i) := by clear hs h; grind
  rw [e, hs, h]; rfl
theorem sub1 (x : Fp) : 0 = x * (1 - 1) := by grind
theorem two_p {y : Fp} (h0 : 1 - y = 0) (h : 1 + y = 0) : (2 : Fp) = 0 := by
  have : (2 : Fp) = (1 - y) + (1 + y) := by clear h0 h; grind
  rw [this, h0, h, add0]
theorem inu {U a i : Fp} (h : a * i = 1) : U = i * (U * a) := by grind
theorem mcomm (a i : Fp) : a * i = i * a := by grind
theorem dz (x a : Fp) : ((x + 0) * (x + 0) - (x - 0) * (x - 0)) * a = 0 := by grind
def a24 : Fp := ofN 121665
def Crv (d s : Fp) : Prop := NS d ∧ ((s = 1 ∧ (1 - d) * (1 + a24) = 1) ∨ (s = -1 ∧ (1 - d) * a24 = -1))
/-- (X : Z) stands for the point's s (1 + y) / (1 - y) -/
def Lk (s : Fp) (S : P1) (P : P1) : Prop := ∃ l : Fp, l ≠ 0 ∧ S.1 = l * (s * (1 + P.2)) ∧ S.2 = l * (1 - P.2)
theorem Crv.sq {d s : Fp} (h : Crv d s) : s * s = 1 := by
  rcases h.2 with ⟨rfl, _⟩ | ⟨rfl, _⟩ <;> grind
theorem Crv.ne {d s : Fp} (h : Crv d s) : s ≠ 0 := fun e => by
  have := h.sq
  rw [e] at this
  rw [fmul0] at this
  exact one_ne this.symm
theorem n16 : (16 : Fp) ≠ 0 := by
  intro h
  have := congrArg Fin.val h
  exact absurd this (by decide +kernel)
theorem n8 : (8 : Fp) ≠ 0 := by
  intro h
  have := congrArg Fin.val h
  exact absurd this (by decide +kernel)

/-! ### doubling -/
theorem dbl_pol1 (d a l x y e : Fp) (E : x^2 + y^2 = 1 + d*x^2*y^2) (he : e = d*x*x*y*y) (ha : (1 - d) * (1 + a) = 1) :
    ((l*(1*(1+y)) + l*(1-y)) * (l*(1*(1+y)) + l*(1-y))) * ((l*(1*(1+y)) - l*(1-y)) * (l*(1*(1+y)) - l*(1-y))) = 8*l*l*l*l*(1 - d*(y*y))*(1+a) * (1 * ((1 - e) + (y*y - x*x))) ∧
    ((l*(1*(1+y)) + l*(1-y)) * (l*(1*(1+y)) + l*(1-y)) - (l*(1*(1+y)) - l*(1-y)) * (l*(1*(1+y)) - l*(1-y))) * ((l*(1*(1+y)) + l*(1-y)) * (l*(1*(1+y)) + l*(1-y)) + a * ((l*(1*(1+y)) + l*(1-y)) * (l*(1*(1+y)) + l*(1-y)) - (l*(1*(1+y)) - l*(1-y)) * (l*(1*(1+y)) - l*(1-y)))) = 8*l*l*l*l*(1 - d*(y*y))*(1+a) * ((1 - e) - (y*y - x*x)) := by
  subst he
  constructor <;> grind
theorem dbl_pol2 (d a l x y e : Fp) (E : x^2 + y^2 = 1 + d*x^2*y^2) (he : e = d*x*x*y*y) (ha : (1 - d) * a = -1) :
    ((l*(-1*(1+y)) + l*(1-y)) * (l*(-1*(1+y)) + l*(1-y))) * ((l*(-1*(1+y)) - l*(1-y)) * (l*(-1*(1+y)) - l*(1-y))) = 8*l*l*l*l*(1 - d*(y*y))*a * (-1 * ((1 - e) + (y*y - x*x))) ∧
    ((l*(-1*(1+y)) + l*(1-y)) * (l*(-1*(1+y)) + l*(1-y)) - (l*(-1*(1+y)) - l*(1-y)) * (l*(-1*(1+y)) - l*(1-y))) * ((l*(-1*(1+y)) + l*(1-y)) * (l*(-1*(1+y)) + l*(1-y)) + a * ((l*(-1*(1+y)) + l*(1-y)) * (l*(-1*(1+y)) + l*(1-y)) - (l*(-1*(1+y)) - l*(1-y)) * (l*(-1*(1+y)) - l*(1-y)))) = 8*l*l*l*l*(1 - d*(y*y))*a * ((1 - e) - (y*y - x*x)) := by
  subst he
  constructor <;> grind
theorem scale {w v i u : Fp} (h : v * i = 1) : w * (v + u) = w * v * (1 + u * i) ∧ w * (v - u) = w * v * (1 - u * i) := by
  constructor <;> grind
theorem scale' {s w v i u : Fp} (h : v * i = 1) : w * (s * (v + u)) = w * v * (s * (1 + u * i)) := by grind
theorem dbl_ok {d s : Fp} (hc : Crv d s) {S P : P1} (hP : On d P) (h : Lk s S P) : Lk s (dbl S) (eadd d P P) := by
  obtain ⟨hd, hcase⟩ := hc
  obtain ⟨l, hl, hX, hZ⟩ := h
  have hm := den_m hd hP hP
  have hi := inv_mul hm
  have hy := hd.sq P.2
  obtain ⟨X, Z⟩ := S
  obtain ⟨x, y⟩ := P
  simp only at hX hZ hy
  subst hX hZ
  have e2 : (eadd d (x, y) (x, y)).2 = (y * y - x * x) * invN (1 - eE d (x, y) (x, y)) := rfl
  unfold Lk
  rw [e2]
  generalize invN (1 - eE d (x, y) (x, y)) = i at *
  have ee : eE d (x, y) (x, y) = d * x * x * y * y := rfl
  rcases hcase with ⟨rfl, ha⟩ | ⟨rfl, ha⟩
  · obtain ⟨h1, h2⟩ := dbl_pol1 d a24 l x y _ hP ee ha
    have hn : (1 + a24 : Fp) ≠ 0 := fun h0 => by rw [h0, fmul0] at ha; exact one_ne ha.symm
    refine ⟨8*l*l*l*l*(1 - d*(y*y))*(1+a24) * (1 - eE d (x, y) (x, y)), f_ne (f_ne (f_ne (f_ne (f_ne (f_ne (f_ne n8 hl) hl) hl) hl) hy) hn) hm, ?_, ?_⟩
    · show _ * _ = _
      rw [h1]; exact scale' hi
    · show _ * _ = _
      have : (ofN 121665 : Fp) = a24 := rfl
      rw [this, h2]; exact (scale hi).2
  · obtain ⟨h1, h2⟩ := dbl_pol2 d a24 l x y _ hP ee ha
    have hn : (a24 : Fp) ≠ 0 := fun h0 => by rw [h0, fmul0] at ha; exact neg_nz ha.symm
    refine ⟨8*l*l*l*l*(1 - d*(y*y))*a24 * (1 - eE d (x, y) (x, y)), f_ne (f_ne (f_ne (f_ne (f_ne (f_ne (f_ne n8 hl) hl) hl) hl) hy) hn) hm, ?_, ?_⟩
    · show _ * _ = _
      rw [h1]; exact scale' hi
    · show _ * _ = _
      have : (ofN 121665 : Fp) = a24 := rfl
      rw [this, h2]; exact (scale hi).2

/-! ### the point turned round -/
def eneg (P : P1) : P1 := (-P.1, P.2)
theorem on_neg {d : Fp} {P : P1} (h : On d P) : On d (eneg P) := by
  unfold On eneg at *
  grind
theorem neg_pol (d x y : Fp) (E : x^2 + y^2 = 1 + d*x^2*y^2) : 1 - d * x * (-x) * y * y = y * y - x * (-x) := by grind
theorem zmul (x : Fp) : 0 * x = 0 := by grind
theorem eadd_neg {d : Fp} (hd : NS d) {P : P1} (hP : On d P) : eadd d P (eneg P) = eO := by
  have hm := den_m hd hP (on_neg hP)
  obtain ⟨x, y⟩ := P
  have h := inv_mul hm
  have e : eE d (x, y) (eneg (x, y)) = d * x * (-x) * y * y := rfl
  have e2 : eadd d (x, y) (eneg (x, y)) = ((x * y + y * (-x)) * invN (1 + eE d (x, y) (eneg (x, y))), (y * y - x * (-x)) * invN (1 - eE d (x, y) (eneg (x, y)))) := rfl
  rw [e2]
  rw [e] at h ⊢
  have h2 : (x * y + y * (-x) : Fp) = 0 := by clear h hm hP hd; grind
  rw [← neg_pol d x y hP, h, h2, zmul]
  rfl
theorem eadd_back {d : Fp} (hd : NS d) {P R : P1} (hP : On d P) (hR : On d R) : eadd d (eadd d P R) (eneg P) = R := by
  rw [eadd_comm d P R, eadd_assoc hd hR hP (on_neg hP), eadd_neg hd hP, eadd_O]

/-! ### adding -/
theorem add_pol (d x1 y1 x2 y2 e : Fp) (E1 : x1^2 + y1^2 = 1 + d*x1^2*y1^2) (E2 : x2^2 + y2^2 = 1 + d*x2^2*y2^2) (he : e = d*x1*x2*y1*y2) :
    ((1 - e) + (y1*y2 - x1*x2)) * ((1 + e) + (y1*y2 + x1*x2)) * ((1 - d*(y1*y1)) * (1 - d*(y2*y2))) = (1 - d) * (1 - d*((y1*y2)*(y1*y2))) * ((y1 + y2) * (y1 + y2)) ∧
    ((1 - e) - (y1*y2 - x1*x2)) * ((1 + e) - (y1*y2 + x1*x2)) * ((1 - d*(y1*y1)) * (1 - d*(y2*y2))) = (1 - d) * (1 - d*((y1*y2)*(y1*y2))) * ((y1 - y2) * (y1 - y2)) := by
  subst he
  constructor <;> grind
theorem lam1 (l1 l2 y1 y2 : Fp) : ((l2*(1*(1+y2)) - l2*(1-y2)) * (l1*(1*(1+y1)) + l1*(1-y1)) + (l2*(1*(1+y2)) + l2*(1-y2)) * (l1*(1*(1+y1)) - l1*(1-y1))) * ((l2*(1*(1+y2)) - l2*(1-y2)) * (l1*(1*(1+y1)) + l1*(1-y1)) + (l2*(1*(1+y2)) + l2*(1-y2)) * (l1*(1*(1+y1)) - l1*(1-y1))) = 16 * (l1*l2) * (l1*l2) * ((y1 + y2) * (y1 + y2)) ∧
    ((l2*(1*(1+y2)) - l2*(1-y2)) * (l1*(1*(1+y1)) + l1*(1-y1)) - (l2*(1*(1+y2)) + l2*(1-y2)) * (l1*(1*(1+y1)) - l1*(1-y1))) * ((l2*(1*(1+y2)) - l2*(1-y2)) * (l1*(1*(1+y1)) + l1*(1-y1)) - (l2*(1*(1+y2)) + l2*(1-y2)) * (l1*(1*(1+y1)) - l1*(1-y1))) = 16 * (l1*l2) * (l1*l2) * ((y1 - y2) * (y1 - y2)) := by
  constructor <;> grind
theorem lam2 (l1 l2 y1 y2 : Fp) : ((l2*(-1*(1+y2)) - l2*(1-y2)) * (l1*(-1*(1+y1)) + l1*(1-y1)) + (l2*(-1*(1+y2)) + l2*(1-y2)) * (l1*(-1*(1+y1)) - l1*(1-y1))) * ((l2*(-1*(1+y2)) - l2*(1-y2)) * (l1*(-1*(1+y1)) + l1*(1-y1)) + (l2*(-1*(1+y2)) + l2*(1-y2)) * (l1*(-1*(1+y1)) - l1*(1-y1))) = 16 * (l1*l2) * (l1*l2) * ((y1 + y2) * (y1 + y2)) ∧
    ((l2*(-1*(1+y2)) - l2*(1-y2)) * (l1*(-1*(1+y1)) + l1*(1-y1)) - (l2*(-1*(1+y2)) + l2*(1-y2)) * (l1*(-1*(1+y1)) - l1*(1-y1))) * ((l2*(-1*(1+y2)) - l2*(1-y2)) * (l1*(-1*(1+y1)) + l1*(1-y1)) - (l2*(-1*(1+y2)) + l2*(1-y2)) * (l1*(-1*(1+y1)) - l1*(1-y1))) = 16 * (l1*l2) * (l1*l2) * ((y1 - y2) * (y1 - y2)) := by
  constructor <;> grind
/-- the fractions joined -/
theorem add_fin {W e i j g gi M u v s U sp sm : Fp} (hs : s * s = 1) (hi : (1 - e) * i = 1) (hj : (1 + e) * j = 1) (hg : g * gi = 1)
    (h1 : ((1 - e) + u) * ((1 + e) + v) * M = g * sp) (h2 : ((1 - e) - u) * ((1 + e) - v) * M = g * sm) (hU : U * (1 - v * j) = s * (1 + v * j)) :
    W * sp = W * ((1 - e) * (1 + e) * M) * gi * (s * (1 + v * j)) * (s * (1 + u * i)) ∧ U * (W * sm) = W * ((1 - e) * (1 + e) * M) * gi * (s * (1 + v * j)) * (1 - u * i) := by
  have a1 : (1 - e) * (1 + u * i) = (1 - e) + u := by clear h1 h2 hU hg hj hs; grind
  have a2 : (1 + e) * (1 + v * j) = (1 + e) + v := by clear h1 h2 hU hg hi hs; grind
  have a3 : (1 - e) * (1 - u * i) = (1 - e) - u := by clear h1 h2 hU hg hj hs; grind
  have a4 : (1 + e) * (1 - v * j) = (1 + e) - v := by clear h1 h2 hU hg hi hs; grind
  rw [← a1, ← a2] at h1
  rw [← a3, ← a4] at h2
  clear a1 a2 a3 a4 hi hj
  generalize 1 + u * i = p at *
  generalize 1 - u * i = q at *
  generalize 1 + v * j = r at *
  generalize 1 - v * j = t at *
  generalize 1 - e = m at *
  generalize 1 + e = n at *
  have b1 : sp = m * p * (n * r) * M * gi := by rw [h1]; clear h1 h2 hU hs; grind
  have b2 : sm = m * q * (n * t) * M * gi := by rw [h2]; clear h1 h2 hU hs; grind
  constructor
  · rw [b1]; clear b1 b2 h1 h2 hU hg; grind
  · rw [b2]
    have : U * (W * (m * q * (n * t) * M * gi)) = W * (m * q * n * M * gi) * (U * t) := by clear b1 b2 h1 h2 hU hg hs; grind
    rw [this, hU]; clear b1 b2 h1 h2 hU hg hs this; grind
theorem dadd_ok {d s U : Fp} (hc : Crv d s) (hU0 : U ≠ 0) {S T P Q R : P1} (hP : On d P) (hQ : On d Q) (hR : eadd d Q (eneg P) = R) (hU : U * (1 - R.2) = s * (1 + R.2)) (hS : Lk s S P) (hT : Lk s T Q) :
    Lk s (dadd U S T) (eadd d P Q) := by
  have hd := hc.1
  have hss := hc.sq
  have hs0 := hc.ne
  have hm := den_m hd hP hQ
  have hp := den_p hd hP hQ
  have im := inv_mul hm
  have ip := inv_mul hp
  have y1n := hd.sq P.2
  have y2n := hd.sq Q.2
  have gn : (1 - d) * (1 - d * ((P.2 * Q.2) * (P.2 * Q.2))) ≠ 0 := f_ne hd.one (hd.sq _)
  have ig := inv_mul gn
  obtain ⟨l1, hl1, hX1, hZ1⟩ := hS
  obtain ⟨l2, hl2, hX2, hZ2⟩ := hT
  obtain ⟨X1, Z1⟩ := S
  obtain ⟨X2, Z2⟩ := T
  obtain ⟨x1, y1⟩ := P
  obtain ⟨x2, y2⟩ := Q
  simp only at hX1 hZ1 hX2 hZ2 y1n y2n gn ig
  subst hX1 hZ1 hX2 hZ2
  have e3 : (eadd d (x1, y1) (x2, y2)).2 = (y1 * y2 - x1 * x2) * invN (1 - eE d (x1, y1) (x2, y2)) := rfl
  have eN : 1 - eE d (x2, y2) (eneg (x1, y1)) = 1 + eE d (x1, y1) (x2, y2) := neg_e d x1 y1 x2 y2
  have e4 : R.2 = (y1 * y2 + x1 * x2) * invN (1 + eE d (x1, y1) (x2, y2)) := by
    rw [← hR]
    show (y2 * y1 - x2 * (-x1)) * invN (1 - eE d (x2, y2) (eneg (x1, y1))) = _
    rw [eN, neg_n]
  obtain ⟨h1, h2⟩ := add_pol d x1 y1 x2 y2 _ hP hQ (show eE d (x1, y1) (x2, y2) = d * x1 * x2 * y1 * y2 from rfl)
  have r1 : 1 + R.2 ≠ 0 := fun h0 => by
    rw [h0] at hU
    have h3 : 1 - R.2 = 2 := two_m h0
    rw [h3, fmul0] at hU
    rcases f_dom hU with h4 | h4
    · exact hU0 h4
    · exact two_nz h4
  rw [e4] at hU r1
  unfold Lk
  rw [e3]
  obtain ⟨f1, f2⟩ := add_fin (W := 16 * (l1 * l2) * (l1 * l2)) hss im ip ig h1 h2 hU
  have hl := f_ne hl1 hl2
  refine ⟨_, f_ne (f_ne (f_ne (f_ne (f_ne n16 hl) hl) (f_ne (f_ne hm hp) (f_ne y1n y2n))) (inv_ne gn)) (f_ne hs0 r1), ?_, ?_⟩
  · rw [← f1]
    rcases hc.2 with ⟨rfl, _⟩ | ⟨rfl, _⟩
    · exact (lam1 l1 l2 y1 y2).1
    · exact (lam2 l1 l2 y1 y2).1
  · rw [← f2]
    rcases hc.2 with ⟨rfl, _⟩ | ⟨rfl, _⟩
    · exact congrArg (U * ·) (lam1 l1 l2 y1 y2).2
    · exact congrArg (U * ·) (lam2 l1 l2 y1 y2).2

/-! ### the ladder -/
theorem mont_ok {d s U : Fp} (hc : Crv d s) (hU0 : U ≠ 0) {P : P1} (hP : On d P) (hU : U * (1 - P.2) = s * (1 + P.2)) {K : Nat} (hK : K < 2 ^ 255) : ∀ i, i ≤ 255 →
    Lk s (mont K U i).1 (emul d (K / 2 ^ (255 - i)) P) ∧ Lk s (mont K U i).2 (emul d (K / 2 ^ (255 - i) + 1) P)
  | 0, _ => by
    have e0 : K / 2 ^ (255 - 0) = 0 := Nat.div_eq_of_lt hK
    rw [e0, Nat.zero_add, emul_one]
    have h2 := inv_mul two_nz
    refine ⟨⟨s * invN 2, f_ne hc.ne (inv_ne two_nz), ?_, ?_⟩, ?_⟩
    · show 1 = s * invN 2 * (s * (1 + 1))
      exact ini hc.sq h2
    · show 0 = s * invN 2 * (1 - 1)
      exact sub1 _
    · have hn : 1 - P.2 ≠ 0 := fun h0 => by
        rw [h0, fmul0] at hU
        rcases f_dom hU.symm with h | h
        · exact hc.ne h
        · exact two_nz (two_p h0 h)
      have hi := inv_mul hn
      refine ⟨invN (1 - P.2), inv_ne hn, ?_, ?_⟩
      · show U = _
        rw [← hU]; exact inu hi
      · exact hi.symm.trans (mcomm _ _)
  | i + 1, hi => by
    obtain ⟨h1, h2⟩ := mont_ok hc hU0 hP hU hK i (by omega)
    have hd := hc.1
    have e1 : K / 2 ^ (255 - i) = K / 2 ^ (255 - (i + 1)) / 2 := by
      rw [Nat.div_div_eq_div_mul, ← Nat.pow_succ]
      congr 2; omega
    have e2 : 254 - i = 255 - (i + 1) := by omega
    have hst : mont K U (i + 1) = if K / 2 ^ (255 - (i + 1)) % 2 = 1 then (dadd U (mont K U i).1 (mont K U i).2, dbl (mont K U i).2) else (dbl (mont K U i).1, dadd U (mont K U i).1 (mont K U i).2) := by
      rw [← e2]; rfl
    rw [e1] at h1 h2
    rw [hst]
    generalize K / 2 ^ (255 - (i + 1)) = k at *
    generalize (mont K U i).1 = S at *
    generalize (mont K U i).2 = T at *
    have o1 := on_mul hd hP (k / 2)
    have o2 := on_mul hd hP (k / 2 + 1)
    have hR : eadd d (emul d (k / 2 + 1) P) (eneg (emul d (k / 2) P)) = P := eadd_back hd o1 hP
    have hA := dadd_ok hc hU0 o1 o2 hR hU h1 h2
    rw [← emul_add hd hP] at hA
    have hB := dbl_ok hc o1 h1
    rw [← emul_add hd hP] at hB
    have hC := dbl_ok hc o2 h2
    rw [← emul_add hd hP] at hC
    by_cases hb : k % 2 = 1
    · rw [if_pos hb]
      rw [show k / 2 + (k / 2 + 1) = k by omega] at hA
      rw [show k / 2 + 1 + (k / 2 + 1) = k + 1 by omega] at hC
      exact ⟨hA, hC⟩
    · rw [if_neg hb]
      rw [show k / 2 + k / 2 = k by omega] at hB
      rw [show k / 2 + (k / 2 + 1) = k + 1 by omega] at hA
      exact ⟨hB, hA⟩
/-- the point's u; 0 of the point at infinity -/
def uu (s : Fp) (P : P1) : Fp := s * (1 + P.2) * invN (1 - P.2)
theorem lk_uu {s : Fp} {S P : P1} (h : Lk s S P) : S.1 * invN S.2 = uu s P := by
  obtain ⟨l, hl, hX, hZ⟩ := h
  rw [hX, hZ, inv_prod]
  unfold uu
  have := inv_mul hl
  generalize invN l = i at *
  generalize invN (1 - P.2) = j
  generalize 1 + P.2 = t
  grind
theorem times_mul {d s U : Fp} (hc : Crv d s) (hU0 : U ≠ 0) {P : P1} (hP : On d P) (hU : U * (1 - P.2) = s * (1 + P.2)) {K : Nat} (hK : K < 2 ^ 255) : timesN K U = uu s (emul d K P) := by
  have h := (mont_ok hc hU0 hP hU hK 255 (Nat.le_refl _)).1
  rw [show 255 - 255 = 0 by omega, Nat.pow_zero, Nat.div_one] at h
  exact lk_uu h
theorem mont_zero (K : Nat) : ∀ i, (mont K 0 i).1.2 = 0
  | 0 => rfl
  | i + 1 => by
    have ih := mont_zero K i
    have hst : mont K 0 (i + 1) = if K / 2 ^ (254 - i) % 2 = 1 then (dadd 0 (mont K 0 i).1 (mont K 0 i).2, dbl (mont K 0 i).2) else (dbl (mont K 0 i).1, dadd 0 (mont K 0 i).1 (mont K 0 i).2) := rfl
    rw [hst]
    generalize mont K 0 i = m at *
    by_cases hb : K / 2 ^ (254 - i) % 2 = 1
    · rw [if_pos hb]
      exact zmul _
    · rw [if_neg hb]
      show (_ - _) * _ = 0
      rw [ih]
      exact dz _ _
theorem times_zero (K : Nat) : timesN K 0 = 0 := by
  unfold timesN
  rw [mont_zero, inv_zero, fmul0]
end Go.Proofs.YtjblfkmmbpcpaaaDoor
