/-
  PLAIN (own work), CURVE PART 1: the ladder over numbers modulo p.
-/
import Derived.Test.YtjblfkmmbpcpaaaDoorPField10
import Derived.Test.YtjblfkmmbpcpaaaDoorRCurve
namespace Go.Proofs.YtjblfkmmbpcpaaaDoor
set_option linter.unusedSimpArgs false
set_option linter.unusedVariables false
set_option linter.unusedSectionVars false
open Go Go.LW
set_option maxRecDepth 10000

def clampF (k : Nat → BitVec 8) : Nat → BitVec 8 := upd (upd k 0 ((k 0) &&& ~~~(7#8))) 31 ((((upd k 0 ((k 0) &&& ~~~(7#8))) 31) &&& (127#8)) ||| (64#8))
theorem clamp_ok (k : Nat → BitVec 8) : curve_Clamp k (clampF k) := rfl

/-! ### two points, by limbs and by numbers -/
abbrev F4 := F5 × F5 × F5 × F5
abbrev P1 := Fp × Fp
def Rp4 (l : F4) (P Q : P1) : Prop := Rp l.1 P.1 ∧ Rp l.2.1 P.2 ∧ Rp l.2.2.1 Q.1 ∧ Rp l.2.2.2 Q.2
def dbl (P : P1) : P1 :=
  (((P.1 + P.2) * (P.1 + P.2)) * ((P.1 - P.2) * (P.1 - P.2)), ((P.1 + P.2) * (P.1 + P.2) - (P.1 - P.2) * (P.1 - P.2)) * ((P.1 + P.2) * (P.1 + P.2) + ofN 121665 * ((P.1 + P.2) * (P.1 + P.2) - (P.1 - P.2) * (P.1 - P.2))))
def dadd (u : Fp) (P Q : P1) : P1 :=
  (((Q.1 - Q.2) * (P.1 + P.2) + (Q.1 + Q.2) * (P.1 - P.2)) * ((Q.1 - Q.2) * (P.1 + P.2) + (Q.1 + Q.2) * (P.1 - P.2)),
   u * (((Q.1 - Q.2) * (P.1 + P.2) - (Q.1 + Q.2) * (P.1 - P.2)) * ((Q.1 - Q.2) * (P.1 + P.2) - (Q.1 + Q.2) * (P.1 - P.2))))
theorem dadd_comm (u : Fp) (P Q : P1) : dadd u P Q = dadd u Q P := by
  unfold dadd
  refine Prod.ext ?_ ?_
  · show _ = _; grind
  · show _ = _; grind
def stepF (u : F5) (s : F4) : F4 :=
  let a := addF s.1 s.2.1
  let b := subF s.1 s.2.1
  let c := addF s.2.2.1 s.2.2.2
  let d := subF s.2.2.1 s.2.2.2
  let da := mulF d a
  let cb := mulF c b
  let aa := mulF a a
  let bb := mulF b b
  let f := subF aa bb
  (mulF aa bb, mulF f (addF aa (mulF (smallF 121665#32) f)), mulF (addF da cb) (addF da cb), mulF u (mulF (subF da cb) (subF da cb)))
theorem step_ok (u : F5) (s : F4) : curve_step u s.1 s.2.1 s.2.2.1 s.2.2.2 (stepF u s) :=
  ⟨_, add_ok _ _, _, sub_ok _ _, _, add_ok _ _, _, sub_ok _ _, _, mul_ok _ _, _, mul_ok _ _, _, add_ok _ _, _, sq_ok _, _, sub_ok _ _, _, sq_ok _, _, mul_ok _ _, _, sq_ok _, _, sq_ok _, _, sub_ok _ _, _, mul_ok _ _, _, small_ok _, _, mul_ok _ _, _, add_ok _ _, _, mul_ok _ _, rfl⟩
theorem rp_step {u : F5} {U : Fp} (hu : Rp u U) {s : F4} {P Q : P1} (h : Rp4 s P Q) : Rp4 (stepF u s) (dbl P) (dadd U P Q) := by
  obtain ⟨h1, h2, h3, h4⟩ := h
  have a := rp_add h1 h2
  have b := rp_sub h1 h2
  have c := rp_add h3 h4
  have d := rp_sub h3 h4
  have da := rp_mul d a
  have cb := rp_mul c b
  have aa := rp_mul a a
  have bb := rp_mul b b
  have f := rp_sub aa bb
  exact ⟨rp_mul aa bb, rp_mul f (rp_add aa (rp_mul (rp_small 121665#32) f)), rp_mul (rp_add da cb) (rp_add da cb), rp_mul hu (rp_mul (rp_sub da cb) (rp_sub da cb))⟩
def swF (b : Nat) (s : F4) : F4 := if b = 1 then (s.2.2.1, s.2.2.2, s.1, s.2.1) else s
theorem sw_ok (b : Nat) (hb : b < 2) (s : F4) : curve_swapped ((b : Nat) : Int) s.1 s.2.1 s.2.2.1 s.2.2.2 (swF b s) := by
  obtain ⟨a, b', c, d⟩ := s
  by_cases h : b = 1
  · subst h
    exact ⟨c, a, by unfold field_Swap; rw [if_pos (by decide)], d, b', by unfold field_Swap; rw [if_pos (by decide)], by unfold swF; rw [if_pos rfl]⟩
  · obtain rfl : b = 0 := by omega
    exact ⟨a, c, by unfold field_Swap; rw [if_neg (by decide)], b', d, by unfold field_Swap; rw [if_neg (by decide)], by unfold swF; rw [if_neg (by decide)]⟩
def kbit (k : Nat → BitVec 8) (t : Nat) : Nat := ((k (t / 8)) >>> (t % 8)).toNat &&& 1
theorem kbit_num (k : Nat → BitVec 8) {t : Nat} (ht : t < 256) : kbit k t = numB k 32 / 2 ^ t % 2 := by
  have h := bitN_iff k ht
  unfold kbit
  unfold bitN at h
  have e : ((k (t / 8)) >>> (t % 8)).toNat &&& 1 = ((k (t / 8)) >>> (t % 8)).toNat % 2 := Nat.and_one_is_mod _
  rw [e]
  have h1 : (((k (t / 8)) >>> (t % 8)) &&& 1#8).toNat = ((k (t / 8)) >>> (t % 8)).toNat % 2 := by
    rw [BitVec.toNat_and, show (1#8 : BitVec 8).toNat = 1 by decide, Nat.and_one_is_mod]
  have h2 : ((k (t / 8)) >>> (t % 8)) &&& 1#8 = 1#8 ↔ ((k (t / 8)) >>> (t % 8)).toNat % 2 = 1 := by
    constructor
    · intro h3; rw [← h1, h3]; rfl
    · intro h3
      apply BitVec.eq_of_toNat_eq
      rw [h1, h3]; rfl
  rw [h2] at h
  omega
theorem kbit_lt (k : Nat → BitVec 8) (t : Nat) : kbit k t < 2 := by
  unfold kbit; rw [Nat.and_one_is_mod]; omega
def ladF (k : Nat → BitVec 8) (u : F5) : Nat → Nat × F4
  | 0 => (0, (smallF 1#32, (fun _ => 0#64), u, smallF 1#32))
  | i + 1 => (kbit k (254 - i), stepF u (swF (kbit k (254 - i) ^^^ (ladF k u i).1) (ladF k u i).2))
theorem ladF_lt (k : Nat → BitVec 8) (u : F5) : ∀ i, (ladF k u i).1 < 2
  | 0 => by show 0 < 2; decide
  | i + 1 => kbit_lt k _
theorem xor_lt {a b : Nat} (ha : a < 2) (hb : b < 2) : a ^^^ b < 2 := by
  rcases (by omega : a = 0 ∨ a = 1) with rfl | rfl <;> rcases (by omega : b = 0 ∨ b = 1) with rfl | rfl <;> decide
/-- the ladder, unswapped -/
def mont (K : Nat) (U : Fp) : Nat → P1 × P1
  | 0 => ((1, 0), (U, 1))
  | i + 1 => if K / 2 ^ (254 - i) % 2 = 1 then (dadd U (mont K U i).1 (mont K U i).2, dbl (mont K U i).2) else (dbl (mont K U i).1, dadd U (mont K U i).1 (mont K U i).2)
theorem lad_mont (k : Nat → BitVec 8) {u : F5} {U : Fp} (hu : Rp u U) : ∀ i, i ≤ 255 →
    Rp4 (swF (ladF k u i).1 (ladF k u i).2) (mont (numB k 32) U i).1 (mont (numB k 32) U i).2
  | 0, _ => ⟨rp_one, rp_zero, hu, rp_one⟩
  | i + 1, hi => by
    have ih := lad_mont k hu i (by omega)
    have hk := kbit_num k (t := 254 - i) (by omega)
    have hlt := ladF_lt k u i
    show Rp4 (swF (kbit k (254 - i)) (stepF u (swF (kbit k (254 - i) ^^^ (ladF k u i).1) (ladF k u i).2))) _ _
    unfold mont
    rw [← hk]
    have hb := kbit_lt k (254 - i)
    generalize kbit k (254 - i) = b at *
    generalize (ladF k u i).1 = w at *
    generalize (ladF k u i).2 = s at *
    generalize (mont (numB k 32) U i).1 = P at *
    generalize (mont (numB k 32) U i).2 = Q at *
    have sw : ∀ (s : F4) (P Q : P1), Rp4 s P Q → Rp4 (swF 1 s) Q P := fun s P Q h => ⟨h.2.2.1, h.2.2.2, h.1, h.2.1⟩
    have s0 : ∀ s : F4, swF 0 s = s := fun s => by unfold swF; rw [if_neg (by decide)]
    have s1 : ∀ s : F4, swF 1 (swF 1 s) = s := fun s => by unfold swF; rw [if_pos rfl, if_pos rfl]
    rcases (by omega : b = 0 ∨ b = 1) with rfl | rfl
    · rw [if_neg (by decide), s0, Nat.zero_xor]
      exact rp_step hu ih
    · rw [if_pos rfl]
      have h2 : Rp4 (swF (1 ^^^ w) s) Q P := by
        rcases (by omega : w = 0 ∨ w = 1) with rfl | rfl
        · rw [s0] at ih; exact sw _ _ _ ih
        · have := sw _ _ _ ih
          rw [s1] at this
          rw [show 1 ^^^ 1 = 0 by decide, s0]
          exact this
      have h3 := sw _ _ _ (rp_step hu h2)
      rw [dadd_comm] at h3
      exact h3
def timesN (K : Nat) (U : Fp) : Fp := (mont K U 255).1.1 * invN (mont K U 255).1.2
theorem times_rp (k u : Nat → BitVec 8) : ∃ r, curve_Times k u r ∧ numB r 32 = (timesN (numB (clampF k) 32) (ofB u)).val := by
  have hu := rp_read u
  have hL := lad_mont (clampF k) hu 255 (Nat.le_refl _)
  obtain ⟨j, hj, hJ⟩ := inv_rp hL.2.1
  refine ⟨_, ⟨_, clamp_ok k, _, read_ok u, _, small_ok _, (ladF (clampF k) (readF u) 255).1, (ladF (clampF k) (readF u) 255).2.1, (ladF (clampF k) (readF u) 255).2.2.1, (ladF (clampF k) (readF u) 255).2.2.2.1, (ladF (clampF k) (readF u) 255).2.2.2.2, ?_, _, _, _, _, sw_ok _ (ladF_lt _ _ _) _, j, hj, _, mul_ok _ _, _, bytes_ok _, rfl⟩, rp_bytes (rp_mul hL.1 hJ)⟩
  generalize clampF k = c
  generalize readF u = v
  have h := Iter.count (step := curve_Times_l0 c v) (x := ((ladF c v 255).1, (ladF c v 255).2.1, (ladF c v 255).2.2.1, (ladF c v 255).2.2.2.1, (ladF c v 255).2.2.2.2)) (fun i => ((ladF c v i).1, (254 : Int) - (i : Int), (ladF c v i).2.1, (ladF c v i).2.2.1, (ladF c v i).2.2.2.1, (ladF c v i).2.2.2.2)) 255 (fun i hi => by
    obtain ⟨t, ht, ht2⟩ : ∃ t : Nat, (254 : Int) - (i : Int) = (t : Int) ∧ t = 254 - i := ⟨254 - i, by omega, rfl⟩
    have d1 : ((t : Int).tdiv 8) = ((t / 8 : Nat) : Int) := by rw [Int.tdiv_eq_ediv_of_nonneg (by omega)]; omega
    have d2 : ((t : Int).tmod 8) = ((t % 8 : Nat) : Int) := by rw [Int.tmod_eq_emod_of_nonneg (by omega)]; omega
    have ht8 : t / 8 < 32 := by omega
    unfold curve_Times_l0; dsimp only
    rw [ht, d1, d2, if_pos (by omega), Int.toNat_natCast, Int.toNat_natCast]
    have e : (254 : Int) - ((i + 1 : Nat) : Int) = (t : Int) - 1 := by omega
    rw [e]
    have hk : (((c (t / 8)) >>> (t % 8)).toNat) &&& 1 = kbit c t := rfl
    have hb := kbit_lt c t
    have hl := ladF_lt c v i
    rw [hk]
    have e2 : ladF c v (i + 1) = (kbit c t, stepF v (swF (kbit c t ^^^ (ladF c v i).1) (ladF c v i).2)) := by rw [ht2]; rfl
    refine ⟨by omega, by omega, by omega, by omega, _, _, _, _, sw_ok _ (xor_lt hb hl) (ladF c v i).2, _, _, _, _, step_ok _ (swF (kbit c t ^^^ (ladF c v i).1) (ladF c v i).2), by omega, ?_⟩
    rw [e2]; rfl) (by
    unfold curve_Times_l0; dsimp only
    rw [if_neg (by omega)])
  exact h
end Go.Proofs.YtjblfkmmbpcpaaaDoor
