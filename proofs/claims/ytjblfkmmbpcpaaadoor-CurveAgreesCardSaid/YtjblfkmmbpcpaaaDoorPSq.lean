/-
  PLAIN (own work), SQUARES modulo p: Euler's criterion, roots.
-/
import Derived.Test.YtjblfkmmbpcpaaaDoorPField9
namespace Go.Proofs.YtjblfkmmbpcpaaaDoor
set_option linter.unusedSimpArgs false
set_option linter.unusedVariables false
set_option linter.unusedSectionVars false
open Go Go.LW
set_option maxRecDepth 10000

theorem exp_root : numB (expF 254#8 15#8) 32 = (p255 + 3) / 8 := by decide +kernel
theorem exp_im : numB (expF 251#8 31#8) 32 = (p255 - 1) / 4 := by decide +kernel
def imN : Fp := ofN (Num.pm p255 256 2 ((p255 - 1) / 4))
theorem im_pow : (ofN 2 : Fp) ^ ((p255 - 1) / 4) = imN := by
  rw [← ofN_pow]
  unfold imN
  refine ofN_eq.2 ?_
  rw [Num.pm_spec p255 256 2 ((p255 - 1) / 4) (by decide +kernel)]
theorem im_sq : imN * imN = -1 := by
  have h : imN * imN + 1 = 0 := by decide +kernel
  grind
theorem fpow2 (x : Fp) (n : Nat) : x ^ (2 * n) = x ^ n * x ^ n := by rw [show 2 * n = n + n by omega, fpow_add]
theorem sq_one {x : Fp} (h : x * x = 1) : x = 1 ∨ x = -1 := by
  have h1 : (x - 1) * (x + 1) = 0 := by grind
  rcases f_dom h1 with h2 | h2
  · exact .inl (by grind)
  · exact .inr (by grind)
/-- the residue class: to the ((p-1)/2)-th -/
def chi (x : Fp) : Fp := x ^ ((p255 - 1) / 2)
theorem chi_mul (x y : Fp) : chi (x * y) = chi x * chi y := fmul_pow _ _ _
theorem chi_cases {x : Fp} (h : x ≠ 0) : chi x = 1 ∨ chi x = -1 := by
  refine sq_one ?_
  unfold chi
  rw [← fpow2, show 2 * ((p255 - 1) / 2) = p255 - 1 by decide]
  exact f_fermat h
theorem chi_sq {x : Fp} (h : x ≠ 0) : chi (x * x) = 1 := by
  rw [chi_mul]
  rcases chi_cases h with h1 | h1 <;> rw [h1] <;> grind
theorem two_ne : (2 : Fp) ≠ 0 := by
  intro h
  have := congrArg Fin.val h
  exact absurd this (by decide +kernel)
theorem neg_one_ne : (-1 : Fp) ≠ 1 := by
  intro h
  have := congrArg Fin.val h
  exact absurd this (by decide +kernel)
/-- the root's candidate -/
def candN (x : Fp) : Fp := x ^ ((p255 + 3) / 8)
theorem cand_sq (x : Fp) : candN x * candN x = x * x ^ ((p255 - 1) / 4) := by
  unfold candN
  rw [← fpow2, show 2 * ((p255 + 3) / 8) = 1 + (p255 - 1) / 4 by decide, fpow_add]
  grind
def hasR (x : Fp) : Prop := x = 0 ∨ chi x = 1
def rawN (x : Fp) : Fp := if candN x * candN x = x then candN x else candN x * imN
theorem raw_sq {x : Fp} (h : hasR x) : rawN x * rawN x = x := by
  unfold rawN
  have hc := cand_sq x
  by_cases hq : candN x * candN x = x
  · rw [if_pos hq]; exact hq
  · rw [if_neg hq]
    have hi := im_sq
    rcases h with h | h
    · exfalso; apply hq; rw [hc, h]; grind
    · have h4 : x ^ ((p255 - 1) / 4) * x ^ ((p255 - 1) / 4) = 1 := by
        rw [← fpow2, show 2 * ((p255 - 1) / 4) = (p255 - 1) / 2 by decide]; exact h
      rcases sq_one h4 with h5 | h5
      · exfalso; apply hq; rw [hc, h5]; grind
      · rw [h5] at hc
        generalize candN x = c at *
        grind
theorem raw_not {x : Fp} (h : ¬ hasR x) : rawN x * rawN x ≠ x := by
  have hx : x ≠ 0 := fun e => h (.inl e)
  have h1 : ∀ y : Fp, y * y ≠ x := fun y e => by
    have hy : y ≠ 0 := fun e0 => hx (by rw [← e, e0]; grind)
    exact h (.inr (by rw [← e]; exact chi_sq hy))
  exact h1 _
theorem hasR_sq (x : Fp) : hasR (x * x) := by
  by_cases h : x = 0
  · exact .inl (by rw [h]; grind)
  · exact .inr (chi_sq h)
theorem hasR_not {x : Fp} (h : ¬ hasR x) : x ≠ 0 ∧ chi x = -1 := by
  have hx : x ≠ 0 := fun e => h (.inl e)
  exact ⟨hx, (chi_cases hx).resolve_left fun e => h (.inr e)⟩
theorem hasR_mul {x y : Fp} (hx : ¬ hasR x) (hy : y ≠ 0) : (hasR (x * y) ↔ ¬ hasR y) := by
  obtain ⟨hx0, hx1⟩ := hasR_not hx
  have hprod : chi (x * y) = -1 * chi y := by rw [chi_mul, hx1]
  constructor
  · intro h h2
    have e1 : chi (x * y) = 1 := by
      rcases h with h | h
      · rcases f_dom h with h | h
        · exact absurd h hx0
        · exact absurd h hy
      · exact h
    have e2 : chi y = 1 := h2.resolve_left hy
    rw [hprod, e2] at e1
    exact neg_one_ne (by grind)
  · intro h
    obtain ⟨_, e⟩ := hasR_not h
    exact .inr (by rw [hprod, e]; grind)
end Go.Proofs.YtjblfkmmbpcpaaaDoor
