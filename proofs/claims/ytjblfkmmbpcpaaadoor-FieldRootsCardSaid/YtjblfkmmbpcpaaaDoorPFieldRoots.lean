/-
  PLAIN LAW OF FieldRoots (own work): squares have an even root; two without one have a product that has one.
-/
import Derived.Test.YtjblfkmmbpcpaaaDoorPField10
import Derived.Test.YtjblfkmmbpcpaaaDoorRFieldRoots
namespace Go.Proofs.YtjblfkmmbpcpaaaDoor
set_option linter.unusedSimpArgs false
set_option linter.unusedVariables false
set_option linter.unusedSectionVars false
open Go Go.LW
set_option maxRecDepth 10000

theorem exp_root : numB (expF 254#8 15#8) 32 = (p255 + 3) / 8 := by decide +kernel
theorem exp_im : numB (expF 251#8 31#8) 32 = (p255 - 1) / 4 := by decide +kernel
def imN : Fp := ofN (Num.pm p255 256 2 ((p255 - 1) / 4))
theorem im_pow : (ofN 2 : Fp) ^ ((p255 - 1) / 4) = imN := by
  rw [← ofN_pow]
  unfold imN
  refine ofN_eq.2 ?_
  rw [Num.pm_spec p255 256 2 ((p255 - 1) / 4) (by decide +kernel)]
theorem im_sq : imN * imN = -1 := by
  have h : imN * imN + 1 = 0 := by decide +kernel
  grind
theorem fpow2 (x : Fp) (n : Nat) : x ^ (2 * n) = x ^ n * x ^ n := by rw [show 2 * n = n + n by omega, fpow_add]
theorem sq_one {x : Fp} (h : x * x = 1) : x = 1 ∨ x = -1 := by
  have h1 : (x - 1) * (x + 1) = 0 := by grind
  rcases f_dom h1 with h2 | h2
  · exact .inl (by grind)
  · exact .inr (by grind)
/-- the residue class: to the ((p-1)/2)-th -/
def chi (x : Fp) : Fp := x ^ ((p255 - 1) / 2)
theorem chi_mul (x y : Fp) : chi (x * y) = chi x * chi y := fmul_pow _ _ _
theorem chi_cases {x : Fp} (h : x ≠ 0) : chi x = 1 ∨ chi x = -1 := by
  refine sq_one ?_
  unfold chi
  rw [← fpow2, show 2 * ((p255 - 1) / 2) = p255 - 1 by decide]
  exact f_fermat h
theorem chi_sq {x : Fp} (h : x ≠ 0) : chi (x * x) = 1 := by
  rw [chi_mul]
  rcases chi_cases h with h1 | h1 <;> rw [h1] <;> grind
theorem two_ne : (2 : Fp) ≠ 0 := by
  intro h
  have := congrArg Fin.val h
  exact absurd this (by decide +kernel)
theorem neg_one_ne : (-1 : Fp) ≠ 1 := by
  intro h
  have := congrArg Fin.val h
  exact absurd this (by decide +kernel)
/-- the root's candidate -/
def candN (x : Fp) : Fp := x ^ ((p255 + 3) / 8)
theorem cand_sq (x : Fp) : candN x * candN x = x * x ^ ((p255 - 1) / 4) := by
  unfold candN
  rw [← fpow2, show 2 * ((p255 + 3) / 8) = 1 + (p255 - 1) / 4 by decide, fpow_add]
  grind
def hasR (x : Fp) : Prop := x = 0 ∨ chi x = 1
def rawN (x : Fp) : Fp := if candN x * candN x = x then candN x else candN x * imN
theorem raw_sq {x : Fp} (h : hasR x) : rawN x * rawN x = x := by
  unfold rawN
  have hc := cand_sq x
  by_cases hq : candN x * candN x = x
  · rw [if_pos hq]; exact hq
  · rw [if_neg hq]
    have hi := im_sq
    rcases h with h | h
    · exfalso; apply hq; rw [hc, h]; grind
    · have h4 : x ^ ((p255 - 1) / 4) * x ^ ((p255 - 1) / 4) = 1 := by
        rw [← fpow2, show 2 * ((p255 - 1) / 4) = (p255 - 1) / 2 by decide]; exact h
      rcases sq_one h4 with h5 | h5
      · exfalso; apply hq; rw [hc, h5]; grind
      · rw [h5] at hc
        generalize candN x = c at *
        grind
theorem raw_not {x : Fp} (h : ¬ hasR x) : rawN x * rawN x ≠ x := by
  have hx : x ≠ 0 := fun e => h (.inl e)
  have h1 : ∀ y : Fp, y * y ≠ x := fun y e => by
    have hy : y ≠ 0 := fun e0 => hx (by rw [← e, e0]; grind)
    exact h (.inr (by rw [← e]; exact chi_sq hy))
  exact h1 _
theorem hasR_sq (x : Fp) : hasR (x * x) := by
  by_cases h : x = 0
  · exact .inl (by rw [h]; grind)
  · exact .inr (chi_sq h)
theorem hasR_not {x : Fp} (h : ¬ hasR x) : x ≠ 0 ∧ chi x = -1 := by
  have hx : x ≠ 0 := fun e => h (.inl e)
  exact ⟨hx, (chi_cases hx).resolve_left fun e => h (.inr e)⟩
theorem oddb (b : BitVec 8) : (b &&& 1#8 = 1#8 ↔ b.toNat % 2 = 1) ∧ (b &&& 1#8 = 0#8 ↔ b.toNat % 2 = 0) := by
  have : ∀ b : BitVec 8, (b &&& 1#8 = 1#8 ↔ b.toNat % 2 = 1) ∧ (b &&& 1#8 = 0#8 ↔ b.toNat % 2 = 0) := by decide +kernel
  exact this b
theorem bytes0 {a : F5} {x : Fp} (h : Rp a x) : (bytesF a 0).toNat % 2 = x.val % 2 := by
  have h1 := byte_num (bytesF a) (q := 0) (by omega)
  rw [rp_bytes h, Nat.pow_zero, Nat.div_one] at h1
  rw [h1]; omega
theorem neg_val {x : Fp} (h : x ≠ 0) : (0 - x).val = p255 - x.val := by
  have h1 : (0 - x) + x = 0 := by grind
  have h2 := congrArg Fin.val h1
  rw [Fin.val_add] at h2
  have h3 := (0 - x).isLt
  have h4 := x.isLt
  have h5 : x.val ≠ 0 := fun e => h (Fin.ext e)
  have h6 : ((0 : Fp)).val = 0 := rfl
  rw [h6] at h2
  generalize (0 - x).val = a at *
  generalize x.val = b at *
  have : a + b = p255 := by
    obtain ⟨c, hc⟩ := Nat.dvd_of_mod_eq_zero h2
    have hc2 : c < 2 := Nat.lt_of_mul_lt_mul_left (a := p255) (by omega)
    rcases (by omega : c = 0 ∨ c = 1) with rfl | rfl <;> omega
  omega
/-- Root -/
def evenN (x : Fp) : Fp := if x.val % 2 = 1 then 0 - x else x
theorem even_sq (x : Fp) : evenN x * evenN x = x * x := by
  unfold evenN; split <;> grind
theorem even_even (x : Fp) : (evenN x).val % 2 = 0 := by
  unfold evenN
  by_cases h : x.val % 2 = 1
  · rw [if_pos h]
    have hx : x ≠ 0 := fun e => by rw [e] at h; exact absurd h (by decide)
    rw [neg_val hx]
    have := x.isLt
    have hp : p255 % 2 = 1 := by decide
    omega
  · rw [if_neg h]; omega
def rootN (x : Fp) : Fp := if rawN x * rawN x = x then evenN (rawN x) else 0
theorem root_rp {a : F5} {x : Fp} (ha : Rp a x) : ∃ r, field_Elem_Root a (r, decide (rawN x * rawN x = x)) ∧ Rp r (rootN x) := by
  obtain ⟨c, c1, c2⟩ := pow_rp ha (expF 254#8 15#8)
  rw [exp_root] at c2
  replace c2 : Rp c (candN x) := c2
  obtain ⟨m, hm, hR⟩ : ∃ m, (∃ x_46, field_Elem_Square c x_46 ∧ ∃ x_49, field_Elem_Equal x_46 a x_49 ∧ if x_49 = true then (m = c) else (∃ x_54, field_Small (2#32) x_54 ∧ ∃ x_57, field_exponent (251#8) (31#8) x_57 ∧ ∃ x_60, field_Elem_Pow x_54 x_57 x_60 ∧ ∃ x_63, field_Elem_Mul c x_60 x_63 ∧ m = x_63)) ∧ Rp m (rawN x) := by
    unfold rawN
    by_cases hq : candN x * candN x = x
    · exact ⟨c, ⟨_, sq_ok _, _, eq_ok (rp_mul c2 c2) ha, by rw [if_pos (decide_eq_true hq)]⟩, by rw [if_pos hq]; exact c2⟩
    · obtain ⟨j, j1, j2⟩ := pow_rp (rp_small 2#32) (expF 251#8 31#8)
      rw [exp_im, show (2#32 : BitVec 32).toNat = 2 by decide, im_pow] at j2
      refine ⟨mulF c j, ⟨_, sq_ok _, _, eq_ok (rp_mul c2 c2) ha, ?_⟩, by rw [if_neg hq]; exact rp_mul c2 j2⟩
      rw [if_neg (by rw [decide_eq_true_iff]; exact hq)]
      exact ⟨_, small_ok _, _, exp_ok _ _, _, j1, _, mul_ok _ _, rfl⟩
  by_cases hq : rawN x * rawN x = x
  · obtain ⟨n, hn, hN⟩ : ∃ n, (∃ x_91, field_Elem_Bytes m x_91 ∧ if ((x_91 0) &&& (1#8)) = 1#8 then (∃ x_95, field_Elem_Sub (fun _ => 0#64) m x_95 ∧ n = x_95) else (n = m)) ∧ Rp n (evenN (rawN x)) := by
      unfold evenN
      by_cases ho : (rawN x).val % 2 = 1
      · refine ⟨_, ⟨_, bytes_ok m, ?_⟩, by rw [if_pos ho]; exact rp_sub rp_zero hR⟩
        rw [if_pos ((oddb _).1.2 (by rw [bytes0 hR]; exact ho))]
        exact ⟨_, sub_ok _ _, rfl⟩
      · refine ⟨_, ⟨_, bytes_ok m, ?_⟩, by rw [if_neg ho]; exact hR⟩
        rw [if_neg (fun h => ho (by rw [← bytes0 hR]; exact (oddb _).1.1 h))]
    refine ⟨n, ⟨_, exp_ok _ _, c, c1, m, hm, _, sq_ok _, _, eq_ok (rp_mul hR hR) ha, ?_⟩, by unfold rootN; rw [if_pos hq]; exact hN⟩
    rw [if_pos (decide_eq_true hq), decide_eq_true hq]
    exact ⟨n, hn, rfl⟩
  · refine ⟨fun _ => 0#64, ⟨_, exp_ok _ _, c, c1, m, hm, _, sq_ok _, _, eq_ok (rp_mul hR hR) ha, ?_⟩, by unfold rootN; rw [if_neg hq]; exact rp_zero⟩
    rw [if_neg (by rw [decide_eq_true_iff]; exact hq), decide_eq_false hq]
theorem root_sq {x : Fp} (h : rawN x * rawN x = x) : rootN x * rootN x = x := by
  unfold rootN; rw [if_pos h, even_sq]; exact h
theorem root_even {x : Fp} (h : rawN x * rawN x = x) : (rootN x).val % 2 = 0 := by
  unfold rootN; rw [if_pos h]; exact even_even _
theorem rootP {a : F5} {x : Fp} (ha : Rp a x) : ∃ r s ok, field_Elem_Root a (r, ok) ∧ Rp r s ∧ (ok = true → s * s = x ∧ s.val % 2 = 0) ∧ (ok = false → s = 0 ∧ ¬ hasR x) ∧ (hasR x → ok = true) := by
  obtain ⟨r, h1, h2⟩ := root_rp ha
  refine ⟨r, _, _, h1, h2, fun h => ?_, fun h => ?_, fun h => decide_eq_true (raw_sq h)⟩
  · have hq := of_decide_eq_true h
    exact ⟨root_sq hq, root_even hq⟩
  · have hq := of_decide_eq_false h
    exact ⟨by unfold rootN; rw [if_neg hq], fun h3 => hq (raw_sq h3)⟩
theorem hasR_mul {x y : Fp} (hx : ¬ hasR x) (hy : y ≠ 0) : (hasR (x * y) ↔ ¬ hasR y) := by
  obtain ⟨hx0, hx1⟩ := hasR_not hx
  have hprod : chi (x * y) = -1 * chi y := by rw [chi_mul, hx1]
  constructor
  · intro h h2
    have e1 : chi (x * y) = 1 := by
      rcases h with h | h
      · rcases f_dom h with h | h
        · exact absurd h hx0
        · exact absurd h hy
      · exact h
    have e2 : chi y = 1 := h2.resolve_left hy
    rw [hprod, e2] at e1
    exact neg_one_ne (by grind)
  · intro h
    obtain ⟨_, e⟩ := hasR_not h
    exact .inr (by rw [hprod, e]; grind)
theorem root_or {x s : Fp} (h : s * s = x * x) : s = x ∨ s + x = 0 := by
  have h3 : (s - x) * (s + x) = 0 := by grind
  rcases f_dom h3 with h4 | h4
  · exact .inl (by grind)
  · exact .inr h4
theorem fieldRoots_true (x y : Nat → BitVec 8) : lethelaw06_FieldRoots x y true := by
  have a := rp_read x
  have b := rp_read y
  have tr : ∀ {p : Prop} [Decidable p], p → decide p = true := fun h => decide_eq_true h
  obtain ⟨s, S, ok, hs, hS, s1, s2, s3⟩ := rootP (rp_mul a a)
  obtain rfl := s3 (hasR_sq _)
  obtain ⟨h1, h2⟩ := s1 rfl
  obtain ⟨r, R, ok1, hr, hR, r1, r2, r3⟩ := rootP a
  obtain ⟨u, U, ok2, hu, hU, u1, u2, u3⟩ := rootP b
  obtain ⟨v, V, ok3, hv, hV, v1, v2, v3⟩ := rootP (rp_mul a b)
  have hm := hasR_mul (x := ofB x) (y := ofB y)
  have rx := read_ok x
  have ry := read_ok y
  generalize ofB x = X at *
  generalize ofB y = Y at *
  refine ⟨_, rx, _, sq_ok _, s, true, hs, true, ?_, fun _ => ?_⟩
  · rw [if_pos rfl]
    refine ⟨_, sq_ok _, _, sq_ok _, _, eq_ok (rp_mul hS hS) (rp_mul a a), ?_⟩
    rw [if_pos (tr h1)]
    refine ⟨_, bytes_ok _, ?_⟩
    rw [if_neg (fun h => h ((oddb _).2.2 (by rw [bytes0 hS]; exact h2)))]
    refine ⟨_, eq_ok hS a, ?_⟩
    by_cases he : S = X
    · rw [if_pos (tr he)]
    · rw [if_neg (by rw [decide_eq_true_iff]; exact he)]
      refine ⟨_, add_ok _ _, _, eq_ok (rp_add hS a) rp_zero, ?_⟩
      rw [if_pos (tr ((root_or h1).resolve_left he))]
  · refine ⟨r, _, hr, ?_⟩
    cases ok1 with
    | true =>
      obtain ⟨h3, h4⟩ := r1 rfl
      rw [if_pos rfl]
      refine ⟨_, sq_ok _, _, eq_ok (rp_mul hR hR) a, ?_⟩
      rw [if_pos (tr h3)]
      refine ⟨_, bytes_ok _, ?_⟩
      rw [tr ((oddb _).2.2 (by rw [bytes0 hR]; exact h4))]
    | false =>
      obtain ⟨h3, h4⟩ := r2 rfl
      rw [if_neg Bool.false_ne_true]
      refine ⟨_, ry, u, _, hu, _, mul_ok _ _, v, _, hv, _, eq_ok hR rp_zero, ?_⟩
      rw [if_pos (tr h3)]
      refine ⟨_, eq_ok b rp_zero, ?_⟩
      by_cases h0 : Y = 0
      · rw [if_pos (tr h0)]
      · rw [if_neg (by rw [decide_eq_true_iff]; exact h0)]
        have h5 := hm h4 h0
        cases ok2 with
        | true =>
          have : ok3 = false := by
            cases ok3 with
            | false => rfl
            | true => 
              exfalso
              have h6 : ¬ hasR Y := h5.1 (by
                by_cases h7 : hasR (X * Y)
                · exact h7
                · exact .inr (by
                    obtain ⟨e1, e2⟩ := v1 rfl
                    have h8 := hasR_sq V
                    rw [e1] at h8
                    exact absurd h8 h7))
              obtain ⟨e1, e2⟩ := u1 rfl
              have h8 := hasR_sq U
              rw [e1] at h8
              exact h6 h8
          rw [this]; rfl
        | false =>
          have := v3 (h5.2 (u2 rfl).2)
          rw [this]; rfl
end Go.Proofs.YtjblfkmmbpcpaaaDoor
